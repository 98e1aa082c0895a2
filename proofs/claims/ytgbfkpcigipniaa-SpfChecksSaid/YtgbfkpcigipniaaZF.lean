/- A part of the proof: HF3, P31, P32, HF4, P33, HP18, HP19, P34, P21, P22, P23, P24, P29, P27, P35, LS. -/
import Derived.Test.YtgbfkpcigipniaaZE
set_option linter.all false
/- The reference's trees are those of Run. -/
namespace Go.Pl
open Go Go.RT
set_option linter.all false
def fil (p : Nat → Bool) (k : Nat) : List Int := ((List.range k).filter p).map fun v : Nat => (v : Int)
theorem fil_succ (p : Nat → Bool) (k : Nat) : fil p (k + 1) = fil p k ++ if p k = true then [(k : Int)] else [] := by
  unfold fil
  rw [List.range_succ, List.filter_append, List.map_append]
  congr 1
  by_cases h : p k = true <;> simp [h]
theorem fil_mem {p : Nat → Bool} {k : Nat} {x : Int} : x ∈ fil p k ↔ ∃ v : Nat, x = v ∧ v < k ∧ p v = true := by
  unfold fil
  simp only [List.mem_map, List.mem_filter, List.mem_range]
  constructor
  · rintro ⟨v, ⟨h1, h2⟩, rfl⟩; exact ⟨v, rfl, h1, h2⟩
  · rintro ⟨v, rfl, h1, h2⟩; exact ⟨v, ⟨h1, h2⟩, rfl⟩
theorem fil_len (p : Nat → Bool) (k : Nat) : (fil p k).length ≤ k := by
  unfold fil; rw [List.length_map]
  have := List.length_filter_le p (List.range k)
  rwa [List.length_range] at this
theorem fil_asc (p : Nat → Bool) (k : Nat) : Asc (fil p k) := by
  unfold fil
  refine List.Pairwise.map _ (R := fun a b : Nat => a < b) (fun a b h => Int.ofNat_lt.2 h) (List.Pairwise.filter _ List.pairwise_lt_range)
theorem asc_ext : ∀ {l l' : List Int}, Asc l → Asc l' → (∀ x, x ∈ l ↔ x ∈ l') → l = l'
  | [], l', _, _, h => by
    cases l' with
    | nil => rfl
    | cons y l' => have := (h y).2 (by simp); cases this
  | x :: l, [], _, _, h => by have := (h x).1 (by simp); cases this
  | x :: l, y :: l', h1, h2, h => by
    obtain ⟨a1, a2⟩ := List.pairwise_cons.1 h1
    obtain ⟨b1, b2⟩ := List.pairwise_cons.1 h2
    have e : x = y := by
      rcases List.mem_cons.1 ((h x).1 (by simp)) with e | e
      · exact e
      · rcases List.mem_cons.1 ((h y).2 (by simp)) with f | f
        · exact f.symm
        · have := b1 x e; have := a1 y f; omega
    subst e
    rw [asc_ext a2 b2 fun z => ?_]
    constructor
    · intro hz
      rcases List.mem_cons.1 ((h z).1 (by simp [hz])) with e | e
      · have := a1 z hz; omega
      · exact e
    · intro hz
      rcases List.mem_cons.1 ((h z).2 (by simp [hz])) with e | e
      · have := b1 z hz; omega
      · exact e
theorem rows_ext {n : Nat} {ll ll' : List (List Int)} (h : ll.length = n) (h' : ll'.length = n) (hr : ∀ v, v < n → rowAt' ll v = rowAt' ll' v) : ll = ll' := by
  apply List.ext_getElem (by omega)
  intro v h1 h2
  have := hr v (by omega)
  simpa [rowAt', List.getD_eq_getElem?_getD, h1, h2] using this
/- a table of distances -/
structure Dst (g : Gr) (D : Nat → Nat → Int) : Prop where
  vg : VG g.es g.r.toNat g.m
  r0 : 0 ≤ g.r
  ok : ∀ i k, i < g.m → k < g.m → IsD g.es i k (D i k)
theorem dst_of {g : Gr} (h : checkI g = 0) : Dst g (disF g.es g.m) := ⟨(checkI_vg h).1, (checkI_vg h).2.1, fun i k hi hk => disF_ok (checkI_vg h).1 hi hk⟩
variable {g : Gr} {D : Nat → Nat → Int} {a : Nat} {t : Tr}
theorem Dst.zero (d : Dst g D) {i : Nat} (hi : i < g.m) : D i i = 0 := by
  rcases (d.ok i i hi hi).cases d.vg with ⟨_, h2⟩ | ⟨h1, _, h3⟩
  · exact absurd .nil (h2 0)
  · have := h3 0 .nil; omega
theorem Dst.tri (d : Dst g D) {i j k : Nat} (hi : i < g.m) (hj : j < g.m) (hk : k < g.m) (h1 : 0 ≤ D i j) (h2 : 0 ≤ D j k) : 0 ≤ D i k ∧ D i k ≤ D i j + D j k := by
  obtain ⟨_, a1, _⟩ := ((d.ok i j hi hj).cases d.vg).resolve_left (fun e => by omega)
  obtain ⟨_, b1, _⟩ := ((d.ok j k hj hk).cases d.vg).resolve_left (fun e => by omega)
  rcases (d.ok i k hi hk).cases d.vg with ⟨_, h⟩ | ⟨h1, _, h3⟩
  · exact absurd (a1.app b1) (h _)
  · exact ⟨h1, h3 _ (a1.app b1)⟩
theorem Dst.edge (d : Dst g D) {i : Nat} {e : Edg} (hi : i < g.m) (he : e ∈ g.es) (h : 0 ≤ D i e.f.toNat) : 0 ≤ D i e.t.toNat ∧ D i e.t.toNat ≤ D i e.f.toNat + e.c := by
  have hf := d.vg.f e he; have ht := d.vg.t e he
  obtain ⟨_, a1, _⟩ := ((d.ok i e.f.toNat hi (by omega)).cases d.vg).resolve_left (fun e => by omega)
  rcases (d.ok i e.t.toNat hi (by omega)).cases d.vg with ⟨_, h⟩ | ⟨h1, _, h3⟩
  · exact absurd (a1.snoc he) (h _)
  · exact ⟨h1, h3 _ (a1.snoc he)⟩
theorem Dst.ge (d : Dst g D) {i k : Nat} (hi : i < g.m) (hk : k < g.m) : -1 ≤ D i k := (d.ok i k hi hk).ge d.vg
theorem Dst.bnd (d : Dst g D) {i k : Nat} (hi : i < g.m) (hk : k < g.m) : -1 ≤ D i k ∧ D i k ≤ 8388480 := (d.ok i k hi hk).small d.vg hi hk
theorem Dst.last (d : Dst g D) {i k : Nat} (hi : i < g.m) (hk : k < g.m) (hne : i ≠ k) (h : 0 ≤ D i k) : ∃ e ∈ g.es, e.t = (k : Int) ∧ 0 ≤ D i e.f.toNat ∧ D i e.f.toNat + e.c = D i k := by
  obtain ⟨_, a1, a2⟩ := ((d.ok i k hi hk).cases d.vg).resolve_left (fun e => by omega)
  generalize hc : D i k = c at a1 a2
  cases a1 with
  | nil => exact absurd rfl hne
  | @snoc e c' w he =>
    have hf := d.vg.f e he; have ht := d.vg.t e he
    rcases (d.ok i e.f.toNat hi (by omega)).cases d.vg with ⟨_, h3⟩ | ⟨h3, h4, h5⟩
    · exact absurd w (h3 _)
    · refine ⟨e, he, by omega, h3, ?_⟩
      have := h5 _ w
      have := a2 _ (h4.snoc he)
      omega
theorem Dst.pos (d : Dst g D) {x : Nat} (ha : (a : Int) < g.r) (ham : a < g.m) (hx : x < g.m) (h : D a x = 0) : x = a := by
  by_cases hne : a = x
  · exact hne.symm
  · obtain ⟨e, he, h1, h2, h3⟩ := d.last ham hx hne (by omega)
    have hc := d.vg.c e he; have hf := d.vg.f e he
    have hr0 := d.r0
    have hfr : ¬ e.f < (g.r.toNat : Int) := fun hl => by have := d.vg.rt e he hl; omega
    have hne2 : a ≠ e.f.toNat := by omega
    obtain ⟨e', he', k1, k2, k3⟩ := d.last ham (k := e.f.toNat) (by omega) hne2 h2
    have hc' := d.vg.c e' he'
    have : e'.f < (g.r.toNat : Int) := by
      rcases Int.lt_or_le e'.f (g.r.toNat : Int) with h | h
      · exact h
      · have := (d.vg.net e' he' h).1; omega
    have := d.vg.rt e' he' this
    omega
theorem RunOk.dD (h : RunOk g a t) (d : Dst g D) {v : Nat} (hv : v < g.m) : gt0 t.dist v = D a v := (h.dist v hv).uniq (d.ok a v h.am hv)
/- parents -/
def parB (g : Gr) (D : Nat → Nat → Int) (a v u : Nat) : Bool := (costL u v g.es).2 && decide (0 ≤ D a u) && decide (D a u + (costL u v g.es).1 = D a v)
def offB (D : Nat → Nat → Int) (a v : Nat) : Bool := decide (v = a) || decide (D a v < 0)
def parR (g : Gr) (D : Nat → Nat → Int) (a v : Nat) : List Int := if offB D a v = true then [] else fil (parB g D a v) g.m
theorem parE_asc {es : List Edg} (ha : AscK es) (a : Nat) (d : List Int) (v : Nat) : Asc (parE es a d v) := by
  unfold parE
  have h1 := List.Pairwise.filter (fun e => parC a d e && decide (e.t = (v : Int))) ha
  refine List.pairwise_map.2 (List.Pairwise.imp_of_mem (fun {x y} hx hy hxy => ?_) h1)
  have hx2 := (List.mem_filter.1 hx).2
  have hy2 := (List.mem_filter.1 hy).2
  simp only [Bool.and_eq_true, decide_eq_true_eq] at hx2 hy2
  unfold ltK at hxy; omega
theorem RunOk.parR (h : RunOk g a t) (d : Dst g D) {v : Nat} (hv : v < g.m) : rowAt' t.par v = Pl.parR g D a v := by
  unfold Pl.parR
  have hda := h.dD d hv
  by_cases hc : offB D a v = true
  · rw [if_pos hc]
    have hl := h.par_len hv
    have : ¬ 0 < (rowAt' t.par v).length := fun hp => by
      have := hl.1 hp
      simp [offB] at hc
      rw [hda] at this
      omega
    exact List.length_eq_zero_iff.1 (by omega)
  · rw [if_neg hc]
    simp [offB] at hc
    refine asc_ext ?_ (fil_asc _ _) fun x => ?_
    · have := h.par
      rw [this]
      have : rowAt' (parL g.es a t.dist (g.r + g.n).toNat) v = parE g.es a t.dist v := parL_get _ _ _ hv
      rw [this]
      exact parE_asc h.vg.asc _ _ _
    · rw [h.par_mem hv, fil_mem]
      constructor
      · rintro ⟨h1, e, he, hf, ht, h2, h3⟩
        have hfn := h.vg.f e he
        have hdu := h.dD d (v := e.f.toNat) (by omega)
        have hge := d.ge h.am (k := e.f.toNat) (by omega)
        have hco := cost_of h.vg.asc he
        rw [show e.f = ((e.f.toNat : Nat) : Int) by omega, ht] at hco
        refine ⟨e.f.toNat, by omega, by omega, ?_⟩
        unfold parB
        rw [hco]
        simp
        omega
      · rintro ⟨u, rfl, hu, hp⟩
        unfold parB at hp
        simp only [Bool.and_eq_true, decide_eq_true_eq] at hp
        obtain ⟨e, he, h1, h2, h3⟩ := (cost_yes h.vg.asc).1 hp.1.1
        have hdu := h.dD d hu
        refine ⟨hc.1, e, he, h1, h2, ?_, ?_⟩
        · rw [h1, Int.toNat_natCast]; omega
        · rw [h1, Int.toNat_natCast]; omega
/- first hops -/
def dirB (g : Gr) (D : Nat → Nat → Int) (a v : Nat) : Bool := ((costL a v g.es).2 && decide ((costL a v g.es).1 = D a v)) || (decide ((v : Int) < g.r) && (List.range g.m).any fun w => decide (g.r ≤ (w : Int)) && ((costL a w g.es).2 && (costL w v g.es).2 && decide ((costL a w g.es).1 = D a w) && decide ((costL a w g.es).1 = D a v)))
def fstB (g : Gr) (D : Nat → Nat → Int) (a v : Nat) : Bool := decide (v ≠ a) && decide (0 ≤ D a v) && dirB g D a v
def hopB (g : Gr) (D : Nat → Nat → Int) (a v y : Nat) : Bool := decide (y = v) || (decide ((y : Int) < g.r) && decide (0 ≤ D y v) && decide (D a y + D y v = D a v))
def hopR (g : Gr) (D : Nat → Nat → Int) (a v : Nat) : List Int := if offB D a v = true then [] else (fil (fstB g D a) g.m).filter fun y => hopB g D a v y.toNat
theorem dir_iff (d : Dst g D) {v : Nat} : dirB g D a v = true ↔ (∃ e ∈ g.es, e.f = (a : Int) ∧ e.t = (v : Int) ∧ e.c = D a v) ∨
    ((v : Int) < g.r ∧ ∃ e ∈ g.es, ∃ e' ∈ g.es, e.f = (a : Int) ∧ g.r ≤ e.t ∧ e'.f = e.t ∧ e'.t = (v : Int) ∧ e.c = D a e.t.toNat ∧ e.c = D a v) := by
  unfold dirB
  simp only [Bool.or_eq_true, Bool.and_eq_true, decide_eq_true_eq, List.any_eq_true, List.mem_range]
  refine or_congr ?_ (and_congr Iff.rfl ?_)
  · constructor
    · rintro ⟨h1, h2⟩
      obtain ⟨e, he, k1, k2, k3⟩ := (cost_yes d.vg.asc).1 h1
      exact ⟨e, he, k1, k2, k3.trans h2⟩
    · rintro ⟨e, he, k1, k2, k3⟩
      have := cost_of d.vg.asc he
      rw [k1, k2] at this
      rw [this]; exact ⟨rfl, k3⟩
  · constructor
    · rintro ⟨w, hw, h0, ⟨⟨h1, h2⟩, h3⟩, h4⟩
      obtain ⟨e, he, k1, k2, k3⟩ := (cost_yes d.vg.asc).1 h1
      obtain ⟨e', he', l1, l2, l3⟩ := (cost_yes d.vg.asc).1 h2
      refine ⟨e, he, e', he', k1, by omega, by omega, l2, ?_, k3.trans h4⟩
      rw [k2, Int.toNat_natCast, k3, h3]
    · rintro ⟨e, he, e', he', h1, h2, h3, h4, h5, h6⟩
      have ht := d.vg.t e he
      have hr0 := d.r0
      have c1 := cost_of d.vg.asc he
      have c2 := cost_of d.vg.asc he'
      rw [h1, show e.t = ((e.t.toNat : Nat) : Int) by omega] at c1
      rw [h3, h4, show e.t = ((e.t.toNat : Nat) : Int) by omega] at c2
      refine ⟨e.t.toNat, by omega, by omega, ?_⟩
      rw [c1, c2]
      exact ⟨⟨⟨rfl, rfl⟩, h5⟩, h6⟩
def muD (g : Gr) (D : Nat → Nat → Int) (a v : Nat) : Nat := (2 * D a v).toNat + if (v : Int) < g.r then 1 else 0
theorem mu_edge (d : Dst g D) {e : Edg} {v : Nat} (he : e ∈ g.es) (ht : e.t = (v : Int)) (h0 : 0 ≤ D a e.f.toNat) (h : D a e.f.toNat + e.c = D a v) : muD g D a e.f.toNat < muD g D a v := by
  have hf := d.vg.f e he; have hc := d.vg.c e he; have hr0 := d.r0
  unfold muD
  by_cases hr : e.f < (g.r.toNat : Int)
  · have := d.vg.rt e he hr
    have h1 : ((e.f.toNat : Nat) : Int) < g.r := by omega
    rw [if_pos h1]
    split <;> omega
  · have := d.vg.net e he (by omega)
    have h1 : ¬ ((e.f.toNat : Nat) : Int) < g.r := by omega
    have h2 : (v : Int) < g.r := by omega
    rw [if_neg h1, if_pos h2]
    omega
theorem hop_iff (h : RunOk g a t) (d : Dst g D) : ∀ (k v : Nat), muD g D a v < k → v < g.m → v ≠ a → 0 ≤ D a v → ∀ x : Int, x ∈ rowAt' t.hops v ↔ ∃ y : Nat, x = y ∧ y < g.m ∧ fstB g D a y = true ∧ hopB g D a v y = true
  | 0, v, hk, _, _, _, _ => by omega
  | k + 1, v, hk, hv, hva, hv0, x => by
    have ham := h.am
    have hlr := h.lt
    have hr0 := d.r0
    have hda := fun {w : Nat} (hw : w < g.m) => h.dD d hw
    have d00 := d.zero ham
    have hon := h.hopInv.on
    have onv : ∀ {w : Nat}, w < g.m → w ≠ a → 0 ≤ D a w → ∀ x, x ∈ rowAt' t.hops w ↔ ∃ u ∈ rowAt' t.par w, Src g.r a w t.hops u x := fun {w} hw h1 h2 => hon w (ordA_mem.2 ⟨hw, by rw [hda hw]; omega, h1⟩)
    have hoff : rowAt' t.hops a = [] := h.hopInv.off a ham (fun hm => (ordA_mem.1 hm).2.2 rfl)
    have hcap : ∀ w : Nat, capV g.r w (w : Int) = w := fun w => by unfold capV; split <;> rfl
    have parI : ∀ {e : Edg} {w : Nat}, e ∈ g.es → e.t = (w : Int) → w < g.m → w ≠ a → 0 ≤ D a e.f.toNat → D a e.f.toNat + e.c = D a w → e.f ∈ rowAt' t.par w := fun {e w} he ht hw hwa h1 h2 => by
      have hf := d.vg.f e he
      refine (h.par_mem hw _).2 ⟨hwa, e, he, rfl, ht, ?_, ?_⟩
      · rw [hda (by omega)]; omega
      · rw [hda (by omega), hda hw]; exact h2
    rw [onv hv hva hv0]
    constructor
    · rintro ⟨u, hu, hsrc⟩
      obtain ⟨_, e, he, hf, ht, h2, h3⟩ := (h.par_mem hv u).1 hu
      have hfn := d.vg.f e he
      have hcn := d.vg.c e he
      rw [hda (by omega)] at h2 h3
      rw [hda hv] at h3
      have hge := d.ge ham (k := e.f.toNat) (by omega)
      rcases hsrc with ⟨e1, e2⟩ | ⟨hh, hm, e2⟩
      · rw [hcap] at e2
        refine ⟨v, e2, hv, ?_, by simp [hopB]⟩
        have : dirB g D a v = true := (dir_iff d).2 (.inl ⟨e, he, by omega, ht, by
          rw [hf, e1, Int.toNat_natCast, d00] at h3; omega⟩)
        simp [fstB, hva, hv0, this]
      · rw [← hf] at hm
        have hua : e.f.toNat ≠ a := fun e3 => by rw [e3, hoff] at hm; cases hm
        have hmu := mu_edge (a := a) d he ht (by omega) h3
        obtain ⟨y, rfl, hy, hy1, hy2⟩ := (hop_iff h d k e.f.toNat (by omega) (by omega) hua (by omega) hh).1 hm
        simp only [hopB, Bool.or_eq_true, Bool.and_eq_true, decide_eq_true_eq] at hy2
        unfold capV at e2
        by_cases hyr : g.r ≤ (y : Int)
        · rw [if_pos hyr] at e2
          have hyu : y = e.f.toNat := by
            rcases hy2 with h | h
            · exact h
            · omega
          refine ⟨v, e2, hv, ?_, by simp [hopB]⟩
          have hnet := d.vg.net e he (by omega)
          simp only [fstB, Bool.and_eq_true, decide_eq_true_eq] at hy1
          have hdir := (dir_iff d).1 hy1.2
          have : dirB g D a v = true := by
            rcases hdir with ⟨e1, he1, k1, k2, k3⟩ | ⟨k1, _⟩
            · refine (dir_iff d).2 (.inr ⟨by omega, e1, he1, e, he, k1, by omega, by omega, ht, ?_, ?_⟩)
              · rw [k2, Int.toNat_natCast]; exact k3
              · rw [k3, hyu]; omega
            · omega
          simp [fstB, hva, hv0, this]
        · rw [if_neg hyr] at e2
          refine ⟨y, e2, hy, hy1, ?_⟩
          simp only [fstB, Bool.and_eq_true, decide_eq_true_eq] at hy1
          have hyb : 0 ≤ D y e.f.toNat ∧ D a y + D y e.f.toNat = D a e.f.toNat := by
            rcases hy2 with h | h
            · rw [h, d.zero (by omega)]; omega
            · exact ⟨h.1.2, h.2⟩
          have e4 := d.edge hy he hyb.1
          rw [ht, Int.toNat_natCast] at e4
          have e5 := d.tri ham hy hv hy1.1.2 e4.1
          simp only [hopB, Bool.or_eq_true, Bool.and_eq_true, decide_eq_true_eq]
          exact .inr ⟨⟨by omega, e4.1⟩, by omega⟩
    · rintro ⟨y, rfl, hy, hy1, hy2⟩
      simp only [fstB, Bool.and_eq_true, decide_eq_true_eq] at hy1
      simp only [hopB, Bool.or_eq_true, Bool.and_eq_true, decide_eq_true_eq] at hy2
      by_cases hyv : y = v
      · subst hyv
        rcases (dir_iff d).1 hy1.2 with ⟨e, he, k1, k2, k3⟩ | ⟨k0, e, he, e', he', k1, k2, k3, k4, k5, k6⟩
        · refine ⟨e.f, parI he k2 hv hva (by rw [k1, Int.toNat_natCast]; omega) (by rw [k1, Int.toNat_natCast]; omega), .inl ⟨k1, (hcap _).symm⟩⟩
        · have htn := d.vg.t e he
          have hcn := d.vg.c e he
          have hnet := d.vg.net e' he' (by omega)
          have hw0 : 0 ≤ D a e'.f.toNat := by rw [k3, ← k5]; exact hcn.1
          refine ⟨e'.f, parI he' k4 hv hva hw0 (by rw [k3, ← k5, hnet.2]; omega), .inr ⟨e'.f, ?_, ?_⟩⟩
          · rw [k3]
            refine (onv (w := e.t.toNat) (by omega) (by omega) (by omega) _).2 ⟨e.f, parI he (by omega) (by omega) (by omega) (by rw [k1, Int.toNat_natCast]; omega) (by rw [k1, Int.toNat_natCast]; omega), .inl ⟨k1, ?_⟩⟩
            rw [hcap]; omega
          · unfold capV; rw [if_pos (by omega)]
      · obtain ⟨⟨hyr, hyv0⟩, hsum⟩ := hy2.resolve_left hyv
        obtain ⟨e, he, k1, k2, k3⟩ := d.last hy hv hyv hyv0
        have hfn := d.vg.f e he
        have e1 := d.tri ham hy (k := e.f.toNat) (by omega) hy1.1.2 k2
        have e2 := d.edge ham he e1.1
        rw [k1, Int.toNat_natCast] at e2
        have heq : D a e.f.toNat + e.c = D a v := by omega
        have hua : e.f.toNat ≠ a := fun e3 => by
          rw [e3, d00] at heq
          rw [e3] at e1 k2 k3
          have : D a y = 0 := by omega
          exact hy1.1.1 (d.pos hlr ham hy this)
        have hmu := mu_edge (a := a) d he k1 e1.1 heq
        refine ⟨e.f, parI he k1 hv hva e1.1 heq, .inr ⟨y, ?_, ?_⟩⟩
        · refine (hop_iff h d k e.f.toNat (by omega) (by omega) hua e1.1 _).2 ⟨y, rfl, hy, by simp [fstB, hy1], ?_⟩
          simp only [hopB, Bool.or_eq_true, Bool.and_eq_true, decide_eq_true_eq]
          exact .inr ⟨⟨hyr, k2⟩, by omega⟩
        · unfold capV; rw [if_neg (by omega)]
theorem RunOk.hopR (h : RunOk g a t) (d : Dst g D) {v : Nat} (hv : v < g.m) : rowAt' t.hops v = Pl.hopR g D a v := by
  unfold Pl.hopR
  have hda := h.dD d hv
  by_cases hc : offB D a v = true
  · rw [if_pos hc]
    have hl := h.hop_len hv
    have : ¬ 0 < (rowAt' t.hops v).length := fun hp => by
      have := hl.1 hp
      simp [offB] at hc
      rw [hda] at this
      omega
    exact List.length_eq_zero_iff.1 (by omega)
  · rw [if_neg hc]
    simp [offB] at hc
    refine asc_ext (h.hopInv.ok.row v hv).1 ((fil_asc _ _).filter _) fun x => ?_
    rw [hop_iff h d _ v (Nat.lt_succ_self _) hv hc.1 hc.2, List.mem_filter, fil_mem]
    constructor
    · rintro ⟨y, rfl, h1, h2, h3⟩
      exact ⟨⟨y, rfl, h1, h2⟩, by rw [Int.toNat_natCast]; exact h3⟩
    · rintro ⟨⟨y, rfl, h1, h2⟩, h3⟩
      rw [Int.toNat_natCast] at h3
      exact ⟨y, rfl, h1, h2, h3⟩
def refT (g : Gr) (D : Nat → Nat → Int) (a : Nat) : Tr := ⟨a, rowF g.m (D a), (List.range g.m).map (hopR g D a), (List.range g.m).map (parR g D a)⟩
theorem RunOk.refT (h : RunOk g a t) (d : Dst g D) : t = Pl.refT g D a := by
  have h1 : t.root = a := h.root
  have h2 : t.dist = rowF g.m (D a) := by
    have hl := h.dl
    change t.dist.length = g.m at hl
    apply List.ext_getElem (by rw [rowF_len]; exact hl)
    intro v k1 k2
    have e1 := h.dD d (v := v) (by omega)
    have e2 := rowF_get g.m (D a) (k := v) (by omega)
    rw [gt0, List.getD_eq_getElem?_getD, List.getElem?_eq_getElem k1] at e1
    rw [gt0, List.getD_eq_getElem?_getD, List.getElem?_eq_getElem k2] at e2
    exact e1.trans e2.symm
  have h3 : t.hops = (List.range g.m).map (Pl.hopR g D a) := rows_ext h.hopInv.ok.len (rng_len _ _) fun v hv => by
    rw [h.hopR d hv]; simp [rowAt', List.getD_eq_getElem?_getD, hv]
  have h4 : t.par = (List.range g.m).map (Pl.parR g D a) := rows_ext h.parl (rng_len _ _) fun v hv => by
    rw [h.parR d hv]; simp [rowAt', List.getD_eq_getElem?_getD, hv]
  cases t
  simp only at h1 h2 h3 h4
  subst h1; subst h2; subst h3; subst h4
  rfl
end Go.Pl
namespace Go.Proofs.Ytgbfkpcigipniaa
open Go Go.RT Go.Proofs Go.Pl
set_option linter.all false
set_option maxRecDepth 20000
set_option maxHeartbeats 4000000
def dirP (g : Gr) (D : Nat → Nat → Int) (a v w : Nat) : Bool := decide (g.r ≤ (w : Int)) && ((costL a w g.es).2 && (costL w v g.es).2 && decide ((costL a w g.es).1 = D a w) && decide ((costL a w g.es).1 = D a v))
theorem direct_c (g : Gr) (D : Nat → Nat → Int) (a v : Nat) (d : Dst g D) (ha : a < g.m) (hv : v < g.m) : Pure Try.prog 32 [.agg (encG g), VLL (matF g.m D), If .i64 a, If .i64 v] (Bf (dirB g D a v)) := by
  have hl : g.es.length ≤ 2000000 := by have := d.vg.e1024; omega
  have hr0 := d.r0
  have h128 := d.vg.n128
  have hle := d.vg.le
  have hr : g.r = (g.r.toNat : Int) := by omega
  have hma := mat_row g.m D ha
  have hrv := row_row g.m (D a) hv
  have hca := rcost_c g a v hl
  have hml := matF_len g.m D
  refine Meets.intro Try.func32 rfl (Nat.le_of_ble_eq_true rfl) fun C hC => ?_
  simp only [List.map, argEnv, Nat.reduceAdd]
  refine nK ?_
  refine s_reg rfl ?_
  refine Run.eff (dd := some 4) rfl rfl (op_box_flat rfl (Opd.tmp _ _ rfl) tC rfl) ?_
  refine Run.pure (dd := some 8) rfl rfl (op_assign rfl (Opd.const _)) ?_
  refine Run.nil (FinR.mk ?_)
  refine nK ?_
  refine s_reg rfl ?_
  refine Run.load (dd := some 17) rfl rfl (op_loadw_flat rfl (Opd.tmp _ _ rfl) tH rfl) ?_
  refine Run.pure (dd := some 18) rfl rfl (op_move rfl (Opd.tmp _ _ rfl)) ?_
  refine Run.pure (dd := some 19) rfl rfl (op_move rfl (Opd.tmp _ _ rfl)) ?_
  refine Run.pure (dd := some 20) rfl rfl (op_call_pure (fun _ => hca) rfl (Opd.func _) (Opds.cons _ _ _ _ (Opd.tmp _ _ rfl) (Opds.cons _ _ _ _ (Opd.tmp _ _ rfl) (Opds.cons _ _ _ _ (Opd.tmp _ _ rfl) Opds.nil)))) ?_
  refine Run.pure (dd := some 16) rfl rfl (op_move rfl (Opd.tmp _ _ rfl)) ?_
  refine Run.pure (dd := some 21) rfl rfl (op_extract_fz rfl (Opd.tmp _ _ rfl) rfl) ?_
  refine Run.pure (dd := some 22) rfl rfl (op_extract_fz rfl (Opd.tmp _ _ rfl) rfl) ?_
  refine Run.pure (dd := some 9) rfl rfl (op_assign rfl (Opd.tmp _ _ rfl)) ?_
  refine Run.pure (dd := some 10) rfl rfl (op_assign rfl (Opd.tmp _ _ rfl)) ?_
  refine Run.nil (FinR.mk ?_)
  refine nK ?_
  refine s_reg rfl ?_
  refine Run.pure (dd := some 23) rfl rfl (op_move rfl (Opd.tmp _ _ rfl)) ?_
  refine Run.pure (dd := some 24) rfl rfl (op_move rfl (Opd.tmp _ _ rfl)) ?_
  refine Run.pureG (dd := some 25) rfl rfl rfl tG (op_move rfl (Opd.tmp _ _ rfl)) ?_
  refine Run.pureG (dd := some 26) rfl rfl rfl tG (op_move rfl (Opd.tmp _ _ rfl)) ?_
  refine Run.pureG (dd := some 27) rfl rfl rfl tG (op_move rfl (Opd.tmp _ _ rfl)) ?_
  refine Run.pureG (dd := some 28) rfl rfl rfl tG (op_idx_fz a rfl (Opd.topt _ _ _ rfl tO) (Opd.topt _ _ _ rfl tO) (by intro _; exact ⟨rfl, hma⟩)) ?_
  refine Run.pureG (dd := some 29) rfl rfl rfl tG (op_load1_fz rfl (Opd.topt _ _ _ rfl tO) rfl) ?_
  refine Run.pureG (dd := some 30) rfl rfl rfl tG (op_move rfl (Opd.tmp _ _ rfl)) ?_
  refine Run.pureG (dd := some 31) rfl rfl rfl tG (op_idx_fz v rfl (Opd.topt _ _ _ rfl tO) (Opd.topt _ _ _ rfl tO) (by intro _; exact ⟨rfl, hrv⟩)) ?_
  refine Run.pureG (dd := some 32) rfl rfl rfl tG (op_load1_fz rfl (Opd.topt _ _ _ rfl tO) rfl) ?_
  refine Run.pureG (dd := some 33) rfl rfl rfl tG (op_eql rfl (Opd.topt _ _ _ rfl tO) (Opd.topt _ _ _ rfl tO)) ?_
  refine Run.pure (dd := some 34) rfl rfl (op_pick_and rfl (Opd.tmp _ _ rfl) (Opd.topt _ _ _ rfl tO)) ?_
  refine Run.nil (FinR.mk ?_)
  refine nK ?_
  refine n_cond _ rfl (fun hb => ?_) (fun hb => ?_)
  · rw [show dirB g D a v = true from by unfold dirB; exact Bool.or_eq_true_iff.2 (.inl hb)]
    refine nK ?_
    refine s_reg rfl ?_
    refine Run.pure (dd := some 8) rfl rfl (op_assign rfl (Opd.const _)) ?_
    refine Run.nil (FinR.mk ?_)
    refine nK ?_
    (first | exact s_o1 hC rfl tV | exact s_o2 hC rfl tV tV | exact s_o3 hC rfl tV tV tV | exact s_out0 hC rfl | exact s_outO hC rfl rfl rfl)
  · have hb1 := hb
    refine nK ?_
    refine s_reg rfl ?_
    refine Run.pure (dd := some 35) rfl rfl (op_move rfl (Opd.tmp _ _ rfl)) ?_
    refine Run.pure (dd := some 36) rfl rfl (op_fld_ptr (by decide) rfl (Opd.tmp _ _ rfl)) ?_
    refine Run.load (dd := some 37) rfl rfl (op_load1_flat rfl (Opd.tmp _ _ rfl) tH rfl) ?_
    refine Run.pure (dd := some 38) rfl rfl (op_geq rfl (Opd.tmp _ _ rfl) (Opd.tmp _ _ rfl)) ?_
    refine Run.nil (FinR.mk ?_)
    refine nK ?_
    refine n_cond _ rfl (fun hb => ?_) (fun hb => ?_)
    · rw [show dirB g D a v = false from by
        unfold dirB
        have : decide ((v : Int) < g.r) = false := by simp at hb ⊢; omega
        rw [this, Bool.false_and, Bool.or_false]; exact hb1]
      refine nK ?_
      refine s_reg rfl ?_
      refine Run.pure (dd := some 8) rfl rfl (op_assign rfl (Opd.const _)) ?_
      refine Run.nil (FinR.mk ?_)
      refine nK ?_
      (first | exact s_o1 hC rfl tV | exact s_o2 hC rfl tV tV | exact s_o3 hC rfl tV tV tV | exact s_out0 hC rfl | exact s_outO hC rfl rfl rfl)
    · have hvr : (v : Int) < g.r := by simp at hb; omega
      have hdir : dirB g D a v = (List.range g.m).any (dirP g D a v) := by
        unfold dirB
        rw [show decide ((v : Int) < g.r) = true by simpa using hvr, Bool.true_and]
        exact (congrArg (fun x => x || _) hb1).trans (Bool.false_or _)
      clear hb hb1
      rw [hdir]
      refine nK ?_
      refine s_reg rfl ?_
      refine Run.pure (dd := some 39) rfl rfl (op_fld_ptr (by decide) rfl (Opd.tmp _ _ rfl)) ?_
      refine Run.load (dd := some 40) rfl rfl (op_load1_flat rfl (Opd.tmp _ _ rfl) tH rfl) ?_
      refine Run.pure (dd := some 11) rfl rfl (op_assign rfl (Opd.tmp _ _ rfl)) ?_
      refine Run.nil (FinR.mk ?_)
      refine nK ?_
      refine n_loop (ι := Nat) (fun w => ([(1, .fz (VLL (matF g.m D))), (2, IV .i64 a), (3, IV .i64 v), (4, .ptr 0 3 0 0), (11, IV .i64 w)], [(0, OG g)], 1)) (fun w => g.r.toNat ≤ w ∧ w ≤ g.m ∧ ∀ x, x < w → dirP g D a v x = false) (fun w => g.m - w) g.r.toNat ⟨Nat.le_refl _, hle, fun x hx => by
        unfold dirP
        rw [show decide (g.r ≤ (x : Int)) = false by simp; omega, Bool.false_and]⟩ ?_ ?_
      · refine Next.weak [0] [] (by rfl) (keepsN hC _ rfl) (by repeat (first | exact trivial | refine ⟨⟨_, rfl, .inl ⟨rfl, rfl⟩⟩, ?_⟩ | refine ⟨⟨_, rfl, .inl ⟨slEq rfl tN, rfl⟩⟩, ?_⟩ | refine ⟨⟨_, rfl, .inl ⟨ivEq tX, rfl⟩⟩, ?_⟩)) (by exact ⟨ent_same rfl rfl rfl tL, trivial⟩) (fun _ h => by simp at h) rel_intro
      · intro w ⟨hw1, hw2, hno⟩ K hK
        try dsimp only at hw1 hw2 hno hK ⊢
        refine nK ?_
        refine s_reg rfl ?_
        refine Run.pure (dd := some 41) rfl rfl (op_move rfl (Opd.tmp _ _ rfl)) ?_
        refine Run.pure (dd := some 42) rfl rfl (op_move rfl (Opd.tmp _ _ rfl)) ?_
        refine Run.pure (dd := some 43) rfl rfl (op_len_fz rfl (by first | exact Opd.tmp _ _ rfl | exact Opd.nil _ _ (Opd.tmp _ _ rfl)) (by first | exact List.length_map _ | rfl)) ?_
        refine Run.pure (dd := some 44) rfl rfl (op_lss rfl (Opd.tmp _ _ rfl) (Opd.tmp _ _ rfl)) ?_
        refine Run.nil (FinR.mk ?_)
        refine nK ?_
        refine n_cond _ rfl (fun hb => ?_) (fun hb => ?_)
        · have hlw : w < g.m := by rw [hml] at hb; have := of_decide_eq_true hb; omega
          have hrw := row_row g.m (D a) hlw
          have hc1 := rcost_c g a w hl
          have hc2 := rcost_c g w v hl
          have hK1 := fun (h : dirP g D a v w = false) => hK (w + 1) ⟨by omega, by omega, fun x hx => by
            rcases Nat.lt_or_ge x w with h1 | h1
            · exact hno x h1
            · rw [show x = w by omega]; exact h⟩ (by omega)
          clear hK hb
          have hgr : decide (g.r ≤ (w : Int)) = true := by simp; omega
          refine nK ?_
          refine s_reg rfl ?_
          refine Run.load (dd := some 48) rfl rfl (op_loadw_flat rfl (Opd.tmp _ _ rfl) tH rfl) ?_
          refine Run.pure (dd := some 49) rfl rfl (op_move rfl (Opd.tmp _ _ rfl)) ?_
          refine Run.pure (dd := some 50) rfl rfl (op_move rfl (Opd.tmp _ _ rfl)) ?_
          refine Run.pure (dd := some 51) rfl rfl (op_call_pure (fun _ => hc1) rfl (Opd.func _) (Opds.cons _ _ _ _ (Opd.tmp _ _ rfl) (Opds.cons _ _ _ _ (Opd.tmp _ _ rfl) (Opds.cons _ _ _ _ (Opd.tmp _ _ rfl) Opds.nil)))) ?_
          refine Run.pure (dd := some 47) rfl rfl (op_move rfl (Opd.tmp _ _ rfl)) ?_
          refine Run.pure (dd := some 52) rfl rfl (op_extract_fz rfl (Opd.tmp _ _ rfl) rfl) ?_
          refine Run.pure (dd := some 53) rfl rfl (op_extract_fz rfl (Opd.tmp _ _ rfl) rfl) ?_
          refine Run.pure (dd := some 12) rfl rfl (op_assign rfl (Opd.tmp _ _ rfl)) ?_
          refine Run.pure (dd := some 13) rfl rfl (op_assign rfl (Opd.tmp _ _ rfl)) ?_
          refine Run.nil (FinR.mk ?_)
          refine nK ?_
          refine s_reg rfl ?_
          refine Run.load (dd := some 55) rfl rfl (op_loadw_flat rfl (Opd.tmp _ _ rfl) tH rfl) ?_
          refine Run.pure (dd := some 56) rfl rfl (op_move rfl (Opd.tmp _ _ rfl)) ?_
          refine Run.pure (dd := some 57) rfl rfl (op_move rfl (Opd.tmp _ _ rfl)) ?_
          refine Run.pure (dd := some 58) rfl rfl (op_call_pure (fun _ => hc2) rfl (Opd.func _) (Opds.cons _ _ _ _ (Opd.tmp _ _ rfl) (Opds.cons _ _ _ _ (Opd.tmp _ _ rfl) (Opds.cons _ _ _ _ (Opd.tmp _ _ rfl) Opds.nil)))) ?_
          refine Run.pure (dd := some 54) rfl rfl (op_move rfl (Opd.tmp _ _ rfl)) ?_
          refine Run.pure (dd := some 59) rfl rfl (op_extract_fz rfl (Opd.tmp _ _ rfl) rfl) ?_
          refine Run.pure (dd := some 60) rfl rfl (op_extract_fz rfl (Opd.tmp _ _ rfl) rfl) ?_
          refine Run.pure (dd := some 14) rfl rfl (op_assign rfl (Opd.tmp _ _ rfl)) ?_
          refine Run.pure (dd := some 15) rfl rfl (op_assign rfl (Opd.tmp _ _ rfl)) ?_
          refine Run.nil (FinR.mk ?_)
          refine nK ?_
          refine s_reg rfl ?_
          refine Run.pure (dd := some 61) rfl rfl (op_move rfl (Opd.tmp _ _ rfl)) ?_
          refine Run.pure (dd := some 62) rfl rfl (op_move rfl (Opd.tmp _ _ rfl)) ?_
          refine Run.pureG (dd := some 63) rfl rfl rfl tG (op_move rfl (Opd.tmp _ _ rfl)) ?_
          refine Run.pure (dd := some 64) rfl rfl (op_pick_and rfl (Opd.tmp _ _ rfl) (Opd.topt _ _ _ rfl tO)) ?_
          refine Run.pure (dd := some 65) rfl rfl (op_move rfl (Opd.tmp _ _ rfl)) ?_
          refine Run.pureG (dd := some 66) rfl rfl rfl tG (op_move rfl (Opd.tmp _ _ rfl)) ?_
          refine Run.pureG (dd := some 67) rfl rfl rfl tG (op_move rfl (Opd.tmp _ _ rfl)) ?_
          refine Run.pureG (dd := some 68) rfl rfl rfl tG (op_move rfl (Opd.tmp _ _ rfl)) ?_
          refine Run.pureG (dd := some 69) rfl rfl rfl tG (op_idx_fz a rfl (Opd.topt _ _ _ rfl tO) (Opd.topt _ _ _ rfl tO) (by intro _; exact ⟨rfl, hma⟩)) ?_
          refine Run.pureG (dd := some 70) rfl rfl rfl tG (op_load1_fz rfl (Opd.topt _ _ _ rfl tO) rfl) ?_
          refine Run.pureG (dd := some 71) rfl rfl rfl tG (op_move rfl (Opd.tmp _ _ rfl)) ?_
          refine Run.pureG (dd := some 72) rfl rfl rfl tG (op_idx_fz w rfl (Opd.topt _ _ _ rfl tO) (Opd.topt _ _ _ rfl tO) (by intro _; exact ⟨rfl, hrw⟩)) ?_
          refine Run.pureG (dd := some 73) rfl rfl rfl tG (op_load1_fz rfl (Opd.topt _ _ _ rfl tO) rfl) ?_
          refine Run.pureG (dd := some 74) rfl rfl rfl tG (op_eql rfl (Opd.topt _ _ _ rfl tO) (Opd.topt _ _ _ rfl tO)) ?_
          refine Run.pure (dd := some 75) rfl rfl (op_pick_and rfl (Opd.tmp _ _ rfl) (Opd.topt _ _ _ rfl tO)) ?_
          refine Run.pure (dd := some 76) rfl rfl (op_move rfl (Opd.tmp _ _ rfl)) ?_
          refine Run.pureG (dd := some 77) rfl rfl rfl tG (op_move rfl (Opd.tmp _ _ rfl)) ?_
          refine Run.pureG (dd := some 78) rfl rfl rfl tG (op_move rfl (Opd.tmp _ _ rfl)) ?_
          refine Run.pureG (dd := some 79) rfl rfl rfl tG (op_move rfl (Opd.tmp _ _ rfl)) ?_
          refine Run.pureG (dd := some 80) rfl rfl rfl tG (op_idx_fz a rfl (Opd.topt _ _ _ rfl tO) (Opd.topt _ _ _ rfl tO) (by intro _; exact ⟨rfl, hma⟩)) ?_
          refine Run.pureG (dd := some 81) rfl rfl rfl tG (op_load1_fz rfl (Opd.topt _ _ _ rfl tO) rfl) ?_
          refine Run.pureG (dd := some 82) rfl rfl rfl tG (op_move rfl (Opd.tmp _ _ rfl)) ?_
          refine Run.pureG (dd := some 83) rfl rfl rfl tG (op_idx_fz v rfl (Opd.topt _ _ _ rfl tO) (Opd.topt _ _ _ rfl tO) (by intro _; exact ⟨rfl, hrv⟩)) ?_
          refine Run.pureG (dd := some 84) rfl rfl rfl tG (op_load1_fz rfl (Opd.topt _ _ _ rfl tO) rfl) ?_
          refine Run.pureG (dd := some 85) rfl rfl rfl tG (op_eql rfl (Opd.topt _ _ _ rfl tO) (Opd.topt _ _ _ rfl tO)) ?_
          refine Run.pure (dd := some 86) rfl rfl (op_pick_and rfl (Opd.tmp _ _ rfl) (Opd.topt _ _ _ rfl tO)) ?_
          refine Run.nil (FinR.mk ?_)
          refine nK ?_
          refine n_cond _ rfl (fun hb => ?_) (fun hb => ?_)
          · rw [show (List.range g.m).any (dirP g D a v) = true from List.any_eq_true.2 ⟨w, List.mem_range.2 hlw, by unfold dirP; rw [hgr]; exact hb⟩]
            refine nK ?_
            refine s_reg rfl ?_
            refine Run.pure (dd := some 8) rfl rfl (op_assign rfl (Opd.const _)) ?_
            refine Run.nil (FinR.mk ?_)
            refine nK ?_
            (first | exact s_o1 hC rfl tV | exact s_o2 hC rfl tV tV | exact s_o3 hC rfl tV tV tV | exact s_out0 hC rfl | exact s_outO hC rfl rfl rfl)
          · refine nK ?_
            refine s_reg rfl ?_
            refine Run.pure (dd := some 45) rfl rfl (op_move rfl (Opd.tmp _ _ rfl)) ?_
            refine Run.pure (dd := some 46) rfl rfl (op_add rfl (Opd.tmp _ _ rfl) (Opd.const _) tI) ?_
            refine Run.pure (dd := some 11) rfl rfl (op_assign rfl (Opd.tmp _ _ rfl)) ?_
            refine Run.nil (FinR.mk ?_)
            refine nK ?_
            refine Next.weak [0] [] (by rfl) (keepsN hC _ rfl) (by repeat (first | exact trivial | refine ⟨⟨_, rfl, .inl ⟨rfl, rfl⟩⟩, ?_⟩ | refine ⟨⟨_, rfl, .inl ⟨slEq rfl tN, rfl⟩⟩, ?_⟩ | refine ⟨⟨_, rfl, .inl ⟨ivEq tX, rfl⟩⟩, ?_⟩)) (by exact ⟨ent_same rfl rfl rfl tL, trivial⟩) (fun _ h => by simp at h) (hK1 (by unfold dirP; rw [hgr]; exact hb))
        · have hwe : w = g.m := by rw [hml] at hb; have := of_decide_eq_false hb; omega
          rw [show (List.range g.m).any (dirP g D a v) = false from by
            rw [List.any_eq_false]
            intro x hx
            rw [hno x (by have := List.mem_range.1 hx; omega)]; simp]
          refine nK ?_
          refine s_reg rfl ?_
          refine Run.pure (dd := some 8) rfl rfl (op_assign rfl (Opd.const _)) ?_
          refine Run.nil (FinR.mk ?_)
          refine nK ?_
          (first | exact s_o1 hC rfl tV | exact s_o2 hC rfl tV tV | exact s_o3 hC rfl tV tV tV | exact s_out0 hC rfl | exact s_outO hC rfl rfl rfl)
end Go.Proofs.Ytgbfkpcigipniaa
namespace Go.Proofs.Ytgbfkpcigipniaa
open Go Go.RT Go.Proofs Go.Pl
set_option linter.all false
set_option maxRecDepth 20000
set_option maxHeartbeats 4000000
theorem rrun_bad (g : Gr) (a : Int) (hok : okG g) (hg : checkI g ≠ 0) : Pure Try.prog 13 [.agg (encG g), If .i64 a] (.tup [.agg (encTr zeroT), If .i64 (checkI g)]) := by
  refine Meets.intro Try.func13 rfl (Nat.le_of_ble_eq_true rfl) fun C hC => ?_
  simp only [List.map, argEnv, Nat.reduceAdd]
  refine nK2 ?_
  refine s_reg rfl ?_
  refine Run.eff (dd := some 2) rfl rfl (op_box_flat rfl (Opd.tmp _ _ rfl) tC rfl) ?_
  refine Run.eff (dd := some 4) rfl rfl (op_alloc rfl rfl rfl rfl) ?_
  refine Run.pure (dd := some 5) rfl rfl (op_assign rfl (Opd.const _)) ?_
  refine Run.nil (FinR.mk ?_)
  refine nK2 ?_
  refine s_reg rfl ?_
  refine Run.load (dd := some 18) rfl rfl (op_loadw_flat rfl (Opd.tmp _ _ rfl) tH rfl) ?_
  refine Run.pure (dd := some 19) rfl rfl (op_call_pure (fun _ => rcheck_c _ (by assumption)) rfl (Opd.func _) (Opds.cons _ _ _ _ (Opd.tmp _ _ rfl) Opds.nil)) ?_
  refine Run.pure (dd := some 6) rfl rfl (op_assign rfl (Opd.tmp _ _ rfl)) ?_
  refine Run.nil (FinR.mk ?_)
  refine nK2 ?_
  refine s_reg rfl ?_
  refine Run.pure (dd := some 20) rfl rfl (op_move rfl (Opd.tmp _ _ rfl)) ?_
  refine Run.pure (dd := some 21) rfl rfl (op_neq rfl (Opd.tmp _ _ rfl) (Opd.const _)) ?_
  refine Run.nil (FinR.mk ?_)
  refine nK2 ?_
  refine n_cond _ rfl (fun hb => ?_) (fun hb => ?_)
  · refine nK2 ?_
    refine s_reg rfl ?_
    refine Run.pure (dd := some 22) rfl rfl (op_build rfl rfl rfl (FillF.nil _)) ?_
    refine Run.pure (dd := some 23) rfl rfl (op_move rfl (Opd.tmp _ _ rfl)) ?_
    refine Run.eff (dd := none) rfl rfl (op_store_flat rfl (Opd.tmp _ _ rfl) (Opd.tmp _ _ rfl) tC rfl rfl (by first | rfl | assumption) tS) ?_
    refine Run.pure (dd := some 5) rfl rfl (op_assign rfl (Opd.tmp _ _ rfl)) ?_
    refine Run.nil (FinR.mk ?_)
    refine nK2 ?_
    (refine Next.weakS [4] [] (by rfl) (keeps0 hC _) (G' := [(4, .ptr 0 4 0 0), (5, .fz _)]) (H' := [(0, OTr zeroT)]) (by repeat (first | exact trivial | refine ⟨⟨_, rfl, .inl ⟨rfl, rfl⟩⟩, ?_⟩ | refine ⟨⟨_, rfl, .inl ⟨slEq rfl tN, rfl⟩⟩, ?_⟩ | refine ⟨⟨_, rfl, .inl ⟨ivEq tX, rfl⟩⟩, ?_⟩)) (by exact ⟨⟨rfl, rfl, .fflat _ _ _ rfl tW⟩, trivial⟩) rfl ?_; (first | exact s_o1 hC rfl tV | exact s_o2 hC rfl tV tV | exact s_o3 hC rfl tV tV tV | exact s_out0 hC rfl | exact s_outO hC rfl rfl rfl))
  · simp at hb; omega
theorem rrun_out (g : Gr) (a : Int) (hok : okG g) (hg : checkI g = 0) (ha : a < 0 ∨ g.r ≤ a) : Pure Try.prog 13 [.agg (encG g), If .i64 a] (.tup [.agg (encTr zeroT), If .i64 5]) := by
  refine Meets.intro Try.func13 rfl (Nat.le_of_ble_eq_true rfl) fun C hC => ?_
  simp only [List.map, argEnv, Nat.reduceAdd]
  refine nK2 ?_
  refine s_reg rfl ?_
  refine Run.eff (dd := some 2) rfl rfl (op_box_flat rfl (Opd.tmp _ _ rfl) tC rfl) ?_
  refine Run.eff (dd := some 4) rfl rfl (op_alloc rfl rfl rfl rfl) ?_
  refine Run.pure (dd := some 5) rfl rfl (op_assign rfl (Opd.const _)) ?_
  refine Run.nil (FinR.mk ?_)
  refine nK2 ?_
  refine s_reg rfl ?_
  refine Run.load (dd := some 18) rfl rfl (op_loadw_flat rfl (Opd.tmp _ _ rfl) tH rfl) ?_
  refine Run.pure (dd := some 19) rfl rfl (op_call_pure (fun _ => rcheck_c _ (by assumption)) rfl (Opd.func _) (Opds.cons _ _ _ _ (Opd.tmp _ _ rfl) Opds.nil)) ?_
  refine Run.pure (dd := some 6) rfl rfl (op_assign rfl (Opd.tmp _ _ rfl)) ?_
  refine Run.nil (FinR.mk ?_)
  refine nK2 ?_
  refine s_reg rfl ?_
  refine Run.pure (dd := some 20) rfl rfl (op_move rfl (Opd.tmp _ _ rfl)) ?_
  refine Run.pure (dd := some 21) rfl rfl (op_neq rfl (Opd.tmp _ _ rfl) (Opd.const _)) ?_
  refine Run.nil (FinR.mk ?_)
  refine nK2 ?_
  refine n_cond _ rfl (fun hb => ?_) (fun hb => ?_)
  · simp at hb; omega
  · refine nK2 ?_
    refine s_reg rfl ?_
    refine Run.pure (dd := some 24) rfl rfl (op_move rfl (Opd.tmp _ _ rfl)) ?_
    refine Run.pure (dd := some 25) rfl rfl (op_lss rfl (Opd.tmp _ _ rfl) (Opd.const _)) ?_
    refine Run.pure (dd := some 26) rfl rfl (op_move rfl (Opd.tmp _ _ rfl)) ?_
    refine Run.pureG (dd := some 27) rfl rfl rfl tG (op_move rfl (Opd.tmp _ _ rfl)) ?_
    refine Run.pureG (dd := some 28) rfl rfl rfl tG (op_fld_ptr (by decide) rfl (Opd.tmp _ _ rfl)) ?_
    refine Run.loadG (dd := some 29) rfl rfl rfl tG (op_load1_flat rfl (Opd.topt _ _ _ rfl tO) tH rfl) ?_
    refine Run.pureG (dd := some 30) rfl rfl rfl tG (op_geq rfl (Opd.topt _ _ _ rfl tO) (Opd.topt _ _ _ rfl tO)) ?_
    refine Run.pure (dd := some 31) rfl rfl (op_pick_or rfl (Opd.tmp _ _ rfl) (Opd.topt _ _ _ rfl tO)) ?_
    refine Run.nil (FinR.mk ?_)
    refine nK2 ?_
    refine n_cond _ rfl (fun hb => ?_) (fun hb => ?_)
    · refine nK2 ?_
      refine s_reg rfl ?_
      refine Run.pure (dd := some 32) rfl rfl (op_build rfl rfl rfl (FillF.nil _)) ?_
      refine Run.eff (dd := none) rfl rfl (op_store_flat rfl (Opd.tmp _ _ rfl) (Opd.tmp _ _ rfl) tC rfl rfl (by first | rfl | assumption) tS) ?_
      refine Run.pure (dd := some 5) rfl rfl (op_assign rfl (Opd.const _)) ?_
      refine Run.nil (FinR.mk ?_)
      refine nK2 ?_
      (refine Next.weakS [4] [] (by rfl) (keeps0 hC _) (G' := [(4, .ptr 0 4 0 0), (5, .fz _)]) (H' := [(0, OTr zeroT)]) (by repeat (first | exact trivial | refine ⟨⟨_, rfl, .inl ⟨rfl, rfl⟩⟩, ?_⟩ | refine ⟨⟨_, rfl, .inl ⟨slEq rfl tN, rfl⟩⟩, ?_⟩ | refine ⟨⟨_, rfl, .inl ⟨ivEq tX, rfl⟩⟩, ?_⟩)) (by exact ⟨⟨rfl, rfl, .fflat _ _ _ rfl tW⟩, trivial⟩) rfl ?_; (first | exact s_o1 hC rfl tV | exact s_o2 hC rfl tV tV | exact s_o3 hC rfl tV tV tV | exact s_out0 hC rfl | exact s_outO hC rfl rfl rfl))
    · simp at hb; omega
/-- rows up to the v-th -/
def preL (n : Nat) (f : Nat → List Int) (v : Nat) : List (List Int) := (List.range n).map fun w => if w < v then f w else []
theorem preL_len (n : Nat) (f : Nat → List Int) (v : Nat) : (preL n f v).length = n := rng_len n _
theorem preL_0 (n : Nat) (f : Nat → List Int) : preL n f 0 = List.replicate n [] := by rw [rng_const]; exact rng_same n _ _ fun w _ => by simp
theorem preL_n (n : Nat) (f : Nat → List Int) : preL n f n = (List.range n).map f := rng_same n _ _ fun w hw => by simp [hw]
theorem preL_set (n : Nat) (f : Nat → List Int) (v : Nat) : (preL n f v).set v (f v) = preL n f (v + 1) := rng_set n _ _ v _ (by simp) (fun w hw => by
    by_cases h : w < v
    · rw [if_pos h, if_pos (by omega)]
    · rw [if_neg h, if_neg (by omega)])
theorem preL_skip {n : Nat} {f : Nat → List Int} {v : Nat} (h : f v = []) : preL n f v = preL n f (v + 1) := rng_same n _ _ fun w _ => by
  by_cases h1 : w < v
  · rw [if_pos h1, if_pos (by omega)]
  · by_cases h2 : w = v
    · subst h2; rw [if_neg h1, if_pos (by omega), h]
    · rw [if_neg h1, if_neg (by omega)]
theorem preL_nil {n : Nat} {f : Nat → List Int} {v : Nat} (h : v < n) : (preL n f v).set v [] = preL n f v := set_self (by simp [preL, h])
theorem set_at {ll : List (List Int)} {v : Nat} {l : List Int} (h : v < ll.length) : (ll.set v l).getD v [] = l := by simp [List.getD_eq_getElem?_getD, h]
theorem setI_set {ll : List (List Int)} {v : Nat} {l l' : List Int} : (rowsI (ll.set v l)).set v (l'.map encN) = rowsI (ll.set v l') := by rw [rowsI_set, List.set_set]
theorem cost_bnd {es : List Edg} {r n : Nat} (vg : VG es r n) (f t : Int) : 0 ≤ (costL f t es).1 ∧ (costL f t es).1 ≤ 65535 := by
  cases h : (costL f t es).2 with
  | true =>
    obtain ⟨e, he, _, _, h3⟩ := (cost_yes vg.asc).1 h
    rw [← h3]; exact vg.c e he
  | false =>
    have : ∀ l : List Edg, (costL f t l).2 = false → (costL f t l).1 = 0 := fun l => by
      induction l with
      | nil => intro _; rfl
      | cons x l ih =>
        simp only [costL]
        split
        · simp
        · exact ih
    rw [this es h]; omega
theorem take_filter {α : Type} (p : α → Bool) (l : List α) (i : Nat) (h : i < l.length) : (l.take (i + 1)).filter p = (l.take i).filter p ++ if p l[i] = true then [l[i]] else [] := by
  rw [List.take_succ_eq_append_getElem h, List.filter_append]
  congr 1
  by_cases h1 : p l[i] = true <;> simp [h1]
theorem rrun_c (g : Gr) (a : Nat) (hok : okG g) (hg : checkI g = 0) (har : (a : Int) < g.r) : Pure Try.prog 13 [.agg (encG g), If .i64 a] (.tup [.agg (encTr (refT g (disF g.es g.m) a)), If .i64 0]) := by
  have d := dst_of hg
  have hdc := rdist_c g hg
  have hm : g.m = (g.r + g.n).toNat := rfl
  have hn0 := (checkI_vg hg).2.2
  have hr0 := d.r0
  have h128 := d.vg.n128
  have hel := d.vg.e1024
  have ha : a < g.m := by omega
  generalize hDD : disF g.es g.m = D at *
  clear hDD hm
  have hma := mat_row g.m D ha
  have hml := matF_len g.m D
  have hrl := rowF_len g.m (D a)
  have hcb := fun f t => cost_bnd d.vg f t
  have hdb := fun i k (hi : i < g.m) (hk : k < g.m) => d.bnd hi hk
  have hel2 : g.es.length ≤ 2000000 := by omega
  refine Meets.intro Try.func13 rfl (Nat.le_of_ble_eq_true rfl) fun C hC => ?_
  simp only [List.map, argEnv, Nat.reduceAdd]
  refine nK2 ?_
  refine s_reg rfl ?_
  refine Run.eff (dd := some 2) rfl rfl (op_box_flat rfl (Opd.tmp _ _ rfl) tC rfl) ?_
  refine Run.eff (dd := some 4) rfl rfl (op_alloc rfl rfl rfl rfl) ?_
  refine Run.pure (dd := some 5) rfl rfl (op_assign rfl (Opd.const _)) ?_
  refine Run.nil (FinR.mk ?_)
  refine nK2 ?_
  refine s_reg rfl ?_
  refine Run.load (dd := some 18) rfl rfl (op_loadw_flat rfl (Opd.tmp _ _ rfl) tH rfl) ?_
  refine Run.pure (dd := some 19) rfl rfl (op_call_pure (fun _ => rcheck_c _ (by assumption)) rfl (Opd.func _) (Opds.cons _ _ _ _ (Opd.tmp _ _ rfl) Opds.nil)) ?_
  refine Run.pure (dd := some 6) rfl rfl (op_assign rfl (Opd.tmp _ _ rfl)) ?_
  refine Run.nil (FinR.mk ?_)
  refine nK2 ?_
  refine s_reg rfl ?_
  refine Run.pure (dd := some 20) rfl rfl (op_move rfl (Opd.tmp _ _ rfl)) ?_
  refine Run.pure (dd := some 21) rfl rfl (op_neq rfl (Opd.tmp _ _ rfl) (Opd.const _)) ?_
  refine Run.nil (FinR.mk ?_)
  refine nK2 ?_
  refine n_cond _ rfl (fun hb => ?_) (fun hb => ?_)
  · simp at hb; omega
  · refine nK2 ?_
    refine s_reg rfl ?_
    refine Run.pure (dd := some 24) rfl rfl (op_move rfl (Opd.tmp _ _ rfl)) ?_
    refine Run.pure (dd := some 25) rfl rfl (op_lss rfl (Opd.tmp _ _ rfl) (Opd.const _)) ?_
    refine Run.pure (dd := some 26) rfl rfl (op_move rfl (Opd.tmp _ _ rfl)) ?_
    refine Run.pureG (dd := some 27) rfl rfl rfl tG (op_move rfl (Opd.tmp _ _ rfl)) ?_
    refine Run.pureG (dd := some 28) rfl rfl rfl tG (op_fld_ptr (by decide) rfl (Opd.tmp _ _ rfl)) ?_
    refine Run.loadG (dd := some 29) rfl rfl rfl tG (op_load1_flat rfl (Opd.topt _ _ _ rfl tO) tH rfl) ?_
    refine Run.pureG (dd := some 30) rfl rfl rfl tG (op_geq rfl (Opd.topt _ _ _ rfl tO) (Opd.topt _ _ _ rfl tO)) ?_
    refine Run.pure (dd := some 31) rfl rfl (op_pick_or rfl (Opd.tmp _ _ rfl) (Opd.topt _ _ _ rfl tO)) ?_
    refine Run.nil (FinR.mk ?_)
    refine nK2 ?_
    refine n_cond _ rfl (fun hb => ?_) (fun hb => ?_)
    · simp at hb; omega
    · clear hb
      refine nK2 ?_
      refine s_reg rfl ?_
      refine Run.load (dd := some 33) rfl rfl (op_loadw_flat rfl (Opd.tmp _ _ rfl) tH rfl) ?_
      refine Run.pure (dd := some 34) rfl rfl (op_call_pure (fun _ => hdc) rfl (Opd.func _) (Opds.cons _ _ _ _ (Opd.tmp _ _ rfl) Opds.nil)) ?_
      refine Run.pure (dd := some 7) rfl rfl (op_assign rfl (Opd.tmp _ _ rfl)) ?_
      refine Run.nil (FinR.mk ?_)
      refine nK2 ?_
      refine s_reg rfl ?_
      refine Run.pure (dd := some 35) rfl rfl (op_move rfl (Opd.tmp _ _ rfl)) ?_
      refine Run.pure (dd := some 36) rfl rfl (op_len_fz rfl (by first | exact Opd.tmp _ _ rfl | exact Opd.nil _ _ (Opd.tmp _ _ rfl)) (by first | exact List.length_map _ | rfl)) ?_
      refine Run.pure (dd := some 8) rfl rfl (op_assign rfl (Opd.tmp _ _ rfl)) ?_
      refine Run.nil (FinR.mk ?_)
      refine nK2 ?_
      refine Next.weak [0, 1] [] (by rfl) (keepsN hC _ rfl) (G' := [(1, IV .i64 a), (2, .ptr 0 3 0 0), (4, .ptr 1 4 0 0), (7, .fz (VLL (matF g.m D))), (8, IV .i64 g.m)]) (H' := [(0, OG g), (1, OTr zeroT)]) (by exact ⟨⟨_, rfl, .inl ⟨rfl, rfl⟩⟩, ⟨_, rfl, .inl ⟨rfl, rfl⟩⟩, ⟨_, rfl, .inl ⟨rfl, rfl⟩⟩, ⟨_, rfl, .inl ⟨rfl, rfl⟩⟩, ⟨_, rfl, .inl ⟨ivEq (by rw [hml]), rfl⟩⟩, trivial⟩) (by exact ⟨ent_same rfl rfl rfl tL, ⟨⟨rfl, rfl, .fflat _ _ _ rfl tW⟩, trivial⟩⟩) (fun _ h => by simp at h) ?_
      refine nK2 ?_
      refine draw_y [(1, IV .i64 a), (2, .ptr 0 3 0 0), (4, .ptr 1 4 0 0), (7, .fz (VLL (matF g.m D))), (8, IV .i64 g.m), (9, .ptr 2 4 0 0)] [(0, OG g), (1, OTr zeroT), (2, some (.refs 4 [[.fz (If .i64 a), .fz (VI (rowF g.m (D a))), .sl 3 1 0 g.m, .sl 4 1 0 g.m]])), (3, some (.flat 1 (List.replicate g.m [.lit (.slice none 0 0)]))), (4, some (.flat 1 (List.replicate g.m [.lit (.slice none 0 0)])))] 5 mixed (fun hK => ?_) ?_
      · skip
        refine AnyY.virt (by kernel_rfl) 0 rfl (op_move rfl (Opd.tmp _ _ rfl)) (by kernel_rfl) rfl (fun t h => by cases h; rfl) ?_
        refine AnyY.virt (by kernel_rfl) 1 rfl (op_move rfl (Opd.tmp _ _ rfl)) (by kernel_rfl) rfl (fun t h => by cases h; rfl) ?_
        refine AnyY.virt (by kernel_rfl) 2 rfl (op_move rfl (Opd.tmp _ _ rfl)) (by kernel_rfl) rfl (fun t h => by cases h; rfl) ?_
        refine AnyY.virt (by kernel_rfl) 3 rfl (op_idx_fz a rfl (Opd.tmp _ _ rfl) (Opd.tmp _ _ rfl) (by intro _; exact ⟨rfl, hma⟩)) (by kernel_rfl) rfl (fun t h => by cases h; rfl) ?_
        refine AnyY.virt (by kernel_rfl) 4 rfl (op_load1_fz rfl (Opd.tmp _ _ rfl) rfl) (by kernel_rfl) rfl (fun t h => by cases h; rfl) ?_
        refine AnyY.virt (by kernel_rfl) 5 rfl (op_move rfl (Opd.tmp _ _ rfl)) (by kernel_rfl) rfl (fun t h => by cases h; rfl) ?_
        refine AnyY.virt (by kernel_rfl) 7 rfl (op_move rfl (Opd.tmp _ _ rfl)) (by kernel_rfl) rfl (fun t h => by cases h; rfl) ?_
        refine AnyY.three 6 8 10 (by kernel_rfl) rfl (by kernel_rfl) (StepY.mk rfl (op_make (l := g.m) (c := g.m) rfl (Opd.tmp _ _ rfl) (Opd.tmp _ _ rfl) rfl rfl rfl rfl (by intro _; refine ⟨rfl, rfl, ?_⟩; omega)) (fun t h => by cases h; rfl) ?_) (StepY.mk rfl (op_make (l := g.m) (c := g.m) rfl (Opd.tmp _ _ rfl) (Opd.tmp _ _ rfl) rfl rfl rfl rfl (by intro _; refine ⟨rfl, rfl, ?_⟩; omega)) (fun t h => by cases h; rfl) ?_) (StepY.mk rfl (op_alloc rfl rfl rfl rfl) (fun t h => by cases h; rfl) ?_)
        · skip
          refine AnyY.two 8 10 (by kernel_rfl) rfl (by kernel_rfl) (StepY.mk rfl (op_make (l := g.m) (c := g.m) rfl (Opd.tmp _ _ rfl) (Opd.tmp _ _ rfl) rfl rfl rfl rfl (by intro _; refine ⟨rfl, rfl, ?_⟩; omega)) (fun t h => by cases h; rfl) ?_) (StepY.mk rfl (op_alloc rfl rfl rfl rfl) (fun t h => by cases h; rfl) ?_)
          · skip
            refine AnyY.virt (by kernel_rfl) 9 rfl (op_buildP rfl rfl rfl rfl (FillP.cons _ _ _ _ _ _ _ _ _ _ (by rfl) (Opd.tmp _ _ rfl) tP (by rfl) tR (FillP.cons _ _ _ _ _ _ _ _ _ _ (by rfl) (Opd.tmp _ _ rfl) tP (by rfl) tR (FillP.cons _ _ _ _ _ _ _ _ _ _ (by rfl) (Opd.tmp _ _ rfl) tP (by rfl) tR (FillP.cons _ _ _ _ _ _ _ _ _ _ (by rfl) (Opd.tmp _ _ rfl) tP (by rfl) tR (FillP.nil _)))))) (by kernel_rfl) rfl (fun t h => by cases h; rfl) ?_
            refine AnyY.one 10 (by kernel_rfl) rfl (by kernel_rfl) (StepY.mk rfl (op_alloc rfl rfl rfl rfl) (fun t h => by cases h; rfl) ?_)
            refine AnyY.toRefs 4 rfl rfl ?_
            refine AnyY.one 11 (by kernel_rfl) rfl (by kernel_rfl) (StepY.mk rfl (op_store_refs rfl (Opd.tmp _ _ rfl) (Opd.tmp _ _ rfl) tP rfl rfl rfl tS) (fun t h => by cases h) ?_)
            refine AnyY.nil (by kernel_rfl) rfl (by kernel_rfl) ?_
            exact Next.weak [0, 1, 4, 2, 3] [] (by rfl) (keepsN hC _ rfl) (by repeat (first | exact trivial | refine ⟨⟨_, rfl, .inl ⟨rfl, rfl⟩⟩, ?_⟩ | refine ⟨⟨_, rfl, .inl ⟨slEq rfl tN, rfl⟩⟩, ?_⟩ | refine ⟨⟨_, rfl, .inl ⟨ivEq tX, rfl⟩⟩, ?_⟩)) (by exact ⟨ent_same rfl rfl rfl tL, ⟨ent_same rfl rfl rfl tL, ⟨ent_same rfl rfl rfl tL, ⟨ent_same rfl rfl rfl tL, ⟨ent_same rfl rfl rfl tL, trivial⟩⟩⟩⟩⟩) (fun _ h => by simp at h) hK
          · skip
            refine AnyY.one 8 (by kernel_rfl) rfl (by kernel_rfl) (StepY.mk rfl (op_make (l := g.m) (c := g.m) rfl (Opd.tmp _ _ rfl) (Opd.tmp _ _ rfl) rfl rfl rfl rfl (by intro _; refine ⟨rfl, rfl, ?_⟩; omega)) (fun t h => by cases h; rfl) ?_)
            refine AnyY.virt (by kernel_rfl) 9 rfl (op_buildP rfl rfl rfl rfl (FillP.cons _ _ _ _ _ _ _ _ _ _ (by rfl) (Opd.tmp _ _ rfl) tP (by rfl) tR (FillP.cons _ _ _ _ _ _ _ _ _ _ (by rfl) (Opd.tmp _ _ rfl) tP (by rfl) tR (FillP.cons _ _ _ _ _ _ _ _ _ _ (by rfl) (Opd.tmp _ _ rfl) tP (by rfl) tR (FillP.cons _ _ _ _ _ _ _ _ _ _ (by rfl) (Opd.tmp _ _ rfl) tP (by rfl) tR (FillP.nil _)))))) (by kernel_rfl) rfl (fun t h => by cases h; rfl) ?_
            refine AnyY.toRefs 3 rfl rfl ?_
            refine AnyY.one 11 (by kernel_rfl) rfl (by kernel_rfl) (StepY.mk rfl (op_store_refs rfl (Opd.tmp _ _ rfl) (Opd.tmp _ _ rfl) tP rfl rfl rfl tS) (fun t h => by cases h) ?_)
            refine AnyY.nil (by kernel_rfl) rfl (by kernel_rfl) ?_
            exact Next.weak [0, 1, 3, 2, 4] [] (by rfl) (keepsN hC _ rfl) (by repeat (first | exact trivial | refine ⟨⟨_, rfl, .inl ⟨rfl, rfl⟩⟩, ?_⟩ | refine ⟨⟨_, rfl, .inl ⟨slEq rfl tN, rfl⟩⟩, ?_⟩ | refine ⟨⟨_, rfl, .inl ⟨ivEq tX, rfl⟩⟩, ?_⟩)) (by exact ⟨ent_same rfl rfl rfl tL, ⟨ent_same rfl rfl rfl tL, ⟨ent_same rfl rfl rfl tL, ⟨ent_same rfl rfl rfl tL, ⟨ent_same rfl rfl rfl tL, trivial⟩⟩⟩⟩⟩) (fun _ h => by simp at h) hK
        · skip
          refine AnyY.two 6 10 (by kernel_rfl) rfl (by kernel_rfl) (StepY.mk rfl (op_make (l := g.m) (c := g.m) rfl (Opd.tmp _ _ rfl) (Opd.tmp _ _ rfl) rfl rfl rfl rfl (by intro _; refine ⟨rfl, rfl, ?_⟩; omega)) (fun t h => by cases h; rfl) ?_) (StepY.mk rfl (op_alloc rfl rfl rfl rfl) (fun t h => by cases h; rfl) ?_)
          · skip
            refine AnyY.virt (by kernel_rfl) 9 rfl (op_buildP rfl rfl rfl rfl (FillP.cons _ _ _ _ _ _ _ _ _ _ (by rfl) (Opd.tmp _ _ rfl) tP (by rfl) tR (FillP.cons _ _ _ _ _ _ _ _ _ _ (by rfl) (Opd.tmp _ _ rfl) tP (by rfl) tR (FillP.cons _ _ _ _ _ _ _ _ _ _ (by rfl) (Opd.tmp _ _ rfl) tP (by rfl) tR (FillP.cons _ _ _ _ _ _ _ _ _ _ (by rfl) (Opd.tmp _ _ rfl) tP (by rfl) tR (FillP.nil _)))))) (by kernel_rfl) rfl (fun t h => by cases h; rfl) ?_
            refine AnyY.one 10 (by kernel_rfl) rfl (by kernel_rfl) (StepY.mk rfl (op_alloc rfl rfl rfl rfl) (fun t h => by cases h; rfl) ?_)
            refine AnyY.toRefs 4 rfl rfl ?_
            refine AnyY.one 11 (by kernel_rfl) rfl (by kernel_rfl) (StepY.mk rfl (op_store_refs rfl (Opd.tmp _ _ rfl) (Opd.tmp _ _ rfl) tP rfl rfl rfl tS) (fun t h => by cases h) ?_)
            refine AnyY.nil (by kernel_rfl) rfl (by kernel_rfl) ?_
            exact Next.weak [0, 1, 4, 3, 2] [] (by rfl) (keepsN hC _ rfl) (by repeat (first | exact trivial | refine ⟨⟨_, rfl, .inl ⟨rfl, rfl⟩⟩, ?_⟩ | refine ⟨⟨_, rfl, .inl ⟨slEq rfl tN, rfl⟩⟩, ?_⟩ | refine ⟨⟨_, rfl, .inl ⟨ivEq tX, rfl⟩⟩, ?_⟩)) (by exact ⟨ent_same rfl rfl rfl tL, ⟨ent_same rfl rfl rfl tL, ⟨ent_same rfl rfl rfl tL, ⟨ent_same rfl rfl rfl tL, ⟨ent_same rfl rfl rfl tL, trivial⟩⟩⟩⟩⟩) (fun _ h => by simp at h) hK
          · skip
            refine AnyY.one 6 (by kernel_rfl) rfl (by kernel_rfl) (StepY.mk rfl (op_make (l := g.m) (c := g.m) rfl (Opd.tmp _ _ rfl) (Opd.tmp _ _ rfl) rfl rfl rfl rfl (by intro _; refine ⟨rfl, rfl, ?_⟩; omega)) (fun t h => by cases h; rfl) ?_)
            refine AnyY.virt (by kernel_rfl) 9 rfl (op_buildP rfl rfl rfl rfl (FillP.cons _ _ _ _ _ _ _ _ _ _ (by rfl) (Opd.tmp _ _ rfl) tP (by rfl) tR (FillP.cons _ _ _ _ _ _ _ _ _ _ (by rfl) (Opd.tmp _ _ rfl) tP (by rfl) tR (FillP.cons _ _ _ _ _ _ _ _ _ _ (by rfl) (Opd.tmp _ _ rfl) tP (by rfl) tR (FillP.cons _ _ _ _ _ _ _ _ _ _ (by rfl) (Opd.tmp _ _ rfl) tP (by rfl) tR (FillP.nil _)))))) (by kernel_rfl) rfl (fun t h => by cases h; rfl) ?_
            refine AnyY.toRefs 3 rfl rfl ?_
            refine AnyY.one 11 (by kernel_rfl) rfl (by kernel_rfl) (StepY.mk rfl (op_store_refs rfl (Opd.tmp _ _ rfl) (Opd.tmp _ _ rfl) tP rfl rfl rfl tS) (fun t h => by cases h) ?_)
            refine AnyY.nil (by kernel_rfl) rfl (by kernel_rfl) ?_
            exact Next.weak [0, 1, 3, 4, 2] [] (by rfl) (keepsN hC _ rfl) (by repeat (first | exact trivial | refine ⟨⟨_, rfl, .inl ⟨rfl, rfl⟩⟩, ?_⟩ | refine ⟨⟨_, rfl, .inl ⟨slEq rfl tN, rfl⟩⟩, ?_⟩ | refine ⟨⟨_, rfl, .inl ⟨ivEq tX, rfl⟩⟩, ?_⟩)) (by exact ⟨ent_same rfl rfl rfl tL, ⟨ent_same rfl rfl rfl tL, ⟨ent_same rfl rfl rfl tL, ⟨ent_same rfl rfl rfl tL, ⟨ent_same rfl rfl rfl tL, trivial⟩⟩⟩⟩⟩) (fun _ h => by simp at h) hK
        · skip
          refine AnyY.two 6 8 (by kernel_rfl) rfl (by kernel_rfl) (StepY.mk rfl (op_make (l := g.m) (c := g.m) rfl (Opd.tmp _ _ rfl) (Opd.tmp _ _ rfl) rfl rfl rfl rfl (by intro _; refine ⟨rfl, rfl, ?_⟩; omega)) (fun t h => by cases h; rfl) ?_) (StepY.mk rfl (op_make (l := g.m) (c := g.m) rfl (Opd.tmp _ _ rfl) (Opd.tmp _ _ rfl) rfl rfl rfl rfl (by intro _; refine ⟨rfl, rfl, ?_⟩; omega)) (fun t h => by cases h; rfl) ?_)
          · skip
            refine AnyY.one 8 (by kernel_rfl) rfl (by kernel_rfl) (StepY.mk rfl (op_make (l := g.m) (c := g.m) rfl (Opd.tmp _ _ rfl) (Opd.tmp _ _ rfl) rfl rfl rfl rfl (by intro _; refine ⟨rfl, rfl, ?_⟩; omega)) (fun t h => by cases h; rfl) ?_)
            refine AnyY.virt (by kernel_rfl) 9 rfl (op_buildP rfl rfl rfl rfl (FillP.cons _ _ _ _ _ _ _ _ _ _ (by rfl) (Opd.tmp _ _ rfl) tP (by rfl) tR (FillP.cons _ _ _ _ _ _ _ _ _ _ (by rfl) (Opd.tmp _ _ rfl) tP (by rfl) tR (FillP.cons _ _ _ _ _ _ _ _ _ _ (by rfl) (Opd.tmp _ _ rfl) tP (by rfl) tR (FillP.cons _ _ _ _ _ _ _ _ _ _ (by rfl) (Opd.tmp _ _ rfl) tP (by rfl) tR (FillP.nil _)))))) (by kernel_rfl) rfl (fun t h => by cases h; rfl) ?_
            refine AnyY.toRefs 2 rfl rfl ?_
            refine AnyY.one 11 (by kernel_rfl) rfl (by kernel_rfl) (StepY.mk rfl (op_store_refs rfl (Opd.tmp _ _ rfl) (Opd.tmp _ _ rfl) tP rfl rfl rfl tS) (fun t h => by cases h) ?_)
            refine AnyY.nil (by kernel_rfl) rfl (by kernel_rfl) ?_
            exact Next.weak [0, 1, 2, 3, 4] [] (by rfl) (keepsN hC _ rfl) (by repeat (first | exact trivial | refine ⟨⟨_, rfl, .inl ⟨rfl, rfl⟩⟩, ?_⟩ | refine ⟨⟨_, rfl, .inl ⟨slEq rfl tN, rfl⟩⟩, ?_⟩ | refine ⟨⟨_, rfl, .inl ⟨ivEq tX, rfl⟩⟩, ?_⟩)) (by exact ⟨ent_same rfl rfl rfl tL, ⟨ent_same rfl rfl rfl tL, ⟨ent_same rfl rfl rfl tL, ⟨ent_same rfl rfl rfl tL, ⟨ent_same rfl rfl rfl tL, trivial⟩⟩⟩⟩⟩) (fun _ h => by simp at h) hK
          · skip
            refine AnyY.one 6 (by kernel_rfl) rfl (by kernel_rfl) (StepY.mk rfl (op_make (l := g.m) (c := g.m) rfl (Opd.tmp _ _ rfl) (Opd.tmp _ _ rfl) rfl rfl rfl rfl (by intro _; refine ⟨rfl, rfl, ?_⟩; omega)) (fun t h => by cases h; rfl) ?_)
            refine AnyY.virt (by kernel_rfl) 9 rfl (op_buildP rfl rfl rfl rfl (FillP.cons _ _ _ _ _ _ _ _ _ _ (by rfl) (Opd.tmp _ _ rfl) tP (by rfl) tR (FillP.cons _ _ _ _ _ _ _ _ _ _ (by rfl) (Opd.tmp _ _ rfl) tP (by rfl) tR (FillP.cons _ _ _ _ _ _ _ _ _ _ (by rfl) (Opd.tmp _ _ rfl) tP (by rfl) tR (FillP.cons _ _ _ _ _ _ _ _ _ _ (by rfl) (Opd.tmp _ _ rfl) tP (by rfl) tR (FillP.nil _)))))) (by kernel_rfl) rfl (fun t h => by cases h; rfl) ?_
            refine AnyY.toRefs 2 rfl rfl ?_
            refine AnyY.one 11 (by kernel_rfl) rfl (by kernel_rfl) (StepY.mk rfl (op_store_refs rfl (Opd.tmp _ _ rfl) (Opd.tmp _ _ rfl) tP rfl rfl rfl tS) (fun t h => by cases h) ?_)
            refine AnyY.nil (by kernel_rfl) rfl (by kernel_rfl) ?_
            exact Next.weak [0, 1, 2, 4, 3] [] (by rfl) (keepsN hC _ rfl) (by repeat (first | exact trivial | refine ⟨⟨_, rfl, .inl ⟨rfl, rfl⟩⟩, ?_⟩ | refine ⟨⟨_, rfl, .inl ⟨slEq rfl tN, rfl⟩⟩, ?_⟩ | refine ⟨⟨_, rfl, .inl ⟨ivEq tX, rfl⟩⟩, ?_⟩)) (by exact ⟨ent_same rfl rfl rfl tL, ⟨ent_same rfl rfl rfl tL, ⟨ent_same rfl rfl rfl tL, ⟨ent_same rfl rfl rfl tL, ⟨ent_same rfl rfl rfl tL, trivial⟩⟩⟩⟩⟩) (fun _ h => by simp at h) hK
      · refine Next.toOwn 3 1 g.m rfl ?_
        refine Next.toOwn 4 1 g.m rfl ?_
        refine Next.weak [0, 1, 2, 3, 4] [] (by rfl) (keepsN hC _ rfl) (G' := [(1, IV .i64 a), (2, .ptr 0 3 0 0), (4, .ptr 1 4 0 0), (7, .fz (VLL (matF g.m D))), (8, IV .i64 g.m), (9, .ptr 2 4 0 0)]) (H' := [(0, OG g), (1, OTr zeroT), (2, some (.refs 4 [[.fz (If .i64 a), .fz (VI (rowF g.m (D a))), .sl 3 1 0 g.m, .sl 4 1 0 g.m]])), (3, some (.refs 1 (ownL 1 (rowsI (preL g.m (hopR g D a) 0))))), (4, some (.refs 1 (ownL 1 (rowsI (preL g.m (parR g D a) 0)))))]) (by repeat (first | exact trivial | refine ⟨⟨_, rfl, .inl ⟨rfl, rfl⟩⟩, ?_⟩ | refine ⟨⟨_, rfl, .inl ⟨slEq rfl tN, rfl⟩⟩, ?_⟩ | refine ⟨⟨_, rfl, .inl ⟨ivEq tX, rfl⟩⟩, ?_⟩)) (by exact ⟨ent_same rfl rfl rfl tL, ⟨ent_same rfl rfl rfl tL, ⟨ent_same rfl rfl rfl tL, ⟨ent_own rfl rfl (by rw [preL_0, rowsI_nil, ← ownL_rep]; rfl), ⟨ent_own rfl rfl (by rw [preL_0, rowsI_nil, ← ownL_rep]; rfl), trivial⟩⟩⟩⟩⟩) (fun _ h => by simp at h) ?_
        refine nK2 ?_
        refine s_reg rfl ?_
        refine Run.eff (dd := some 47) rfl rfl (op_buildSlice_own rfl (RowsF.nil _) rfl rfl rfl) ?_
        refine Run.pure (dd := some 10) rfl rfl (op_assign rfl (Opd.tmp _ _ rfl)) ?_
        refine Run.nil (FinR.mk ?_)
        refine nK2 ?_
        refine s_reg rfl ?_
        refine Run.pure (dd := some 11) rfl rfl (op_assign rfl (Opd.const _)) ?_
        refine Run.nil (FinR.mk ?_)
        refine nK2 ?_
        refine n_loop (ι := Nat) (fun i => ([(1, IV .i64 a), (2, .ptr 0 3 0 0), (4, .ptr 1 4 0 0), (7, .fz (VLL (matF g.m D))), (8, IV .i64 g.m), (9, .ptr 2 4 0 0), (10, .sl 5 1 0 (fil (fstB g D a) i).length), (11, IV .i64 i)], [(0, OG g), (1, OTr zeroT), (2, some (.refs 4 [[.fz (If .i64 a), .fz (VI (rowF g.m (D a))), .sl 3 1 0 g.m, .sl 4 1 0 g.m]])), (3, some (.refs 1 (ownL 1 (rowsI (preL g.m (hopR g D a) 0))))), (4, some (.refs 1 (ownL 1 (rowsI (preL g.m (parR g D a) 0))))), (5, OI (fil (fstB g D a) i))], 6)) (fun i => i ≤ g.m) (fun i => g.m - i) 0 (Nat.zero_le _) ?_ ?_
        · refine Next.weak [0, 1, 2, 3, 4, 5] [] (by rfl) (keepsN hC _ rfl) (by repeat (first | exact trivial | refine ⟨⟨_, rfl, .inl ⟨rfl, rfl⟩⟩, ?_⟩ | refine ⟨⟨_, rfl, .inl ⟨slEq rfl tN, rfl⟩⟩, ?_⟩ | refine ⟨⟨_, rfl, .inl ⟨ivEq tX, rfl⟩⟩, ?_⟩)) (by exact ⟨ent_same rfl rfl rfl tL, ⟨ent_same rfl rfl rfl tL, ⟨ent_same rfl rfl rfl tL, ⟨ent_own rfl rfl rfl, ⟨ent_own rfl rfl rfl, ⟨ent_same rfl rfl rfl tL, trivial⟩⟩⟩⟩⟩⟩) (fun _ h => by simp at h) rel_intro
        · intro i hi K hK
          try dsimp only at hi hK ⊢
          have hfl := fil_len (fstB g D a) i
          refine nK2 ?_
          refine s_reg rfl ?_
          refine Run.pure (dd := some 48) rfl rfl (op_move rfl (Opd.tmp _ _ rfl)) ?_
          refine Run.pure (dd := some 49) rfl rfl (op_move rfl (Opd.tmp _ _ rfl)) ?_
          refine Run.pure (dd := some 50) rfl rfl (op_lss rfl (Opd.tmp _ _ rfl) (Opd.tmp _ _ rfl)) ?_
          refine Run.nil (FinR.mk ?_)
          refine nK2 ?_
          refine n_cond _ rfl (fun hb => ?_) (fun hb => ?_)
          · have hlt : i < g.m := by have := of_decide_eq_true hb; omega
            have hri := row_row g.m (D a) hlt
            have hdir := direct_c g D a i d ha hlt
            have hK1 := hK (i + 1) (by omega) (by omega)
            rw [fil_succ] at hK1
            generalize fil (fstB g D a) i = F at *
            refine nK2 ?_
            refine s_reg rfl ?_
            refine Run.pure (dd := some 53) rfl rfl (op_move rfl (Opd.tmp _ _ rfl)) ?_
            refine Run.pure (dd := some 54) rfl rfl (op_move rfl (Opd.tmp _ _ rfl)) ?_
            refine Run.pure (dd := some 55) rfl rfl (op_neq rfl (Opd.tmp _ _ rfl) (Opd.tmp _ _ rfl)) ?_
            refine Run.pure (dd := some 56) rfl rfl (op_move rfl (Opd.tmp _ _ rfl)) ?_
            refine Run.pureG (dd := some 57) rfl rfl rfl tG (op_move rfl (Opd.tmp _ _ rfl)) ?_
            refine Run.pureG (dd := some 58) rfl rfl rfl tG (op_move rfl (Opd.tmp _ _ rfl)) ?_
            refine Run.pureG (dd := some 59) rfl rfl rfl tG (op_idx_fz a rfl (Opd.topt _ _ _ rfl tO) (Opd.topt _ _ _ rfl tO) (by intro _; exact ⟨rfl, hma⟩)) ?_
            refine Run.pureG (dd := some 60) rfl rfl rfl tG (op_load1_fz rfl (Opd.topt _ _ _ rfl tO) rfl) ?_
            refine Run.pureG (dd := some 61) rfl rfl rfl tG (op_move rfl (Opd.tmp _ _ rfl)) ?_
            refine Run.pureG (dd := some 62) rfl rfl rfl tG (op_idx_fz i rfl (Opd.topt _ _ _ rfl tO) (Opd.topt _ _ _ rfl tO) (by intro _; exact ⟨rfl, hri⟩)) ?_
            refine Run.pureG (dd := some 63) rfl rfl rfl tG (op_load1_fz rfl (Opd.topt _ _ _ rfl tO) rfl) ?_
            refine Run.pureG (dd := some 64) rfl rfl rfl tG (op_geq rfl (Opd.topt _ _ _ rfl tO) (Opd.const _)) ?_
            refine Run.pure (dd := some 65) rfl rfl (op_pick_and rfl (Opd.tmp _ _ rfl) (Opd.topt _ _ _ rfl tO)) ?_
            refine Run.pure (dd := some 66) rfl rfl (op_move rfl (Opd.tmp _ _ rfl)) ?_
            refine Run.loadG (dd := some 67) rfl rfl rfl tG (op_loadw_flat rfl (Opd.tmp _ _ rfl) tH rfl) ?_
            refine Run.pureG (dd := some 68) rfl rfl rfl tG (op_move rfl (Opd.tmp _ _ rfl)) ?_
            refine Run.pureG (dd := some 69) rfl rfl rfl tG (op_move rfl (Opd.tmp _ _ rfl)) ?_
            refine Run.pureG (dd := some 70) rfl rfl rfl tG (op_move rfl (Opd.tmp _ _ rfl)) ?_
            refine Run.pureG (dd := some 71) rfl rfl rfl tG (op_call_pure (fun _ => hdir) rfl (Opd.func _) (Opds.cons _ _ _ _ (Opd.topt _ _ _ rfl tO) (Opds.cons _ _ _ _ (Opd.topt _ _ _ rfl tO) (Opds.cons _ _ _ _ (Opd.topt _ _ _ rfl tO) (Opds.cons _ _ _ _ (Opd.topt _ _ _ rfl tO) Opds.nil))))) ?_
            refine Run.pure (dd := some 72) rfl rfl (op_pick_and rfl (Opd.tmp _ _ rfl) (Opd.topt _ _ _ rfl tO)) ?_
            refine Run.nil (FinR.mk ?_)
            refine nK2 ?_
            refine n_cond _ rfl (fun hb => ?_) (fun hb => ?_)
            · have hc : fstB g D a i = true := by unfold fstB; simpa [Int.natCast_inj] using hb
              rw [if_pos hc] at hK1
              refine nK2 ?_
              refine s_reg rfl ?_
              refine Run.pure (dd := some 73) rfl rfl (op_move rfl (Opd.tmp _ _ rfl)) ?_
              refine Run.pure (dd := some 74) rfl rfl (op_move rfl (Opd.tmp _ _ rfl)) ?_
              refine Run.pure (dd := some 75) rfl rfl (op_buildSlice_fz rfl (RowsF.cons _ _ _ _ _ _ (Opd.tmp _ _ rfl) tC (by rfl) (RowsF.nil _)) rfl rfl) ?_
              refine Run.eff (dd := some 76) rfl rfl (op_append rfl (Opd.tmp _ _ rfl) (by first | exact Opd.tmp _ _ rfl | exact Opd.nil _ _ (Opd.tmp _ _ rfl)) rfl (by first | rfl | simp) rfl rfl tB tB) ?_
              refine Run.pure (dd := some 10) rfl rfl (op_assign rfl (Opd.tmp _ _ rfl)) ?_
              refine Run.nil (FinR.mk ?_)
              refine nK2 ?_
              refine s_reg rfl ?_
              refine Run.pure (dd := some 51) rfl rfl (op_move rfl (Opd.tmp _ _ rfl)) ?_
              refine Run.pure (dd := some 52) rfl rfl (op_add rfl (Opd.tmp _ _ rfl) (Opd.const _) tI) ?_
              refine Run.pure (dd := some 11) rfl rfl (op_assign rfl (Opd.tmp _ _ rfl)) ?_
              refine Run.nil (FinR.mk ?_)
              refine nK2 ?_
              refine Next.weak [0, 1, 2, 3, 4, 6] [] (by rfl) (keepsN hC _ rfl) (by repeat (first | exact trivial | refine ⟨⟨_, rfl, .inl ⟨rfl, rfl⟩⟩, ?_⟩ | refine ⟨⟨_, rfl, .inl ⟨slEq rfl tN, rfl⟩⟩, ?_⟩ | refine ⟨⟨_, rfl, .inl ⟨ivEq tX, rfl⟩⟩, ?_⟩)) (by exact ⟨ent_same rfl rfl rfl tL, ⟨ent_same rfl rfl rfl tL, ⟨ent_same rfl rfl rfl tL, ⟨ent_own rfl rfl rfl, ⟨ent_own rfl rfl rfl, ⟨ent_same rfl rfl (flEq rfl (by rw [List.map_append]; rfl)) trivial, trivial⟩⟩⟩⟩⟩⟩) (fun _ h => by simp at h) hK1
            · have hc : ¬ fstB g D a i = true := fun h => by rw [Bool.eq_false_iff] at hb; apply hb; unfold fstB at h; simpa [Int.natCast_inj] using h
              rw [if_neg hc, List.append_nil] at hK1
              refine nK2 ?_
              refine s_reg rfl ?_
              refine Run.pure (dd := some 51) rfl rfl (op_move rfl (Opd.tmp _ _ rfl)) ?_
              refine Run.pure (dd := some 52) rfl rfl (op_add rfl (Opd.tmp _ _ rfl) (Opd.const _) tI) ?_
              refine Run.pure (dd := some 11) rfl rfl (op_assign rfl (Opd.tmp _ _ rfl)) ?_
              refine Run.nil (FinR.mk ?_)
              refine nK2 ?_
              refine Next.weak [0, 1, 2, 3, 4, 5] [] (by rfl) (keepsN hC _ rfl) (by repeat (first | exact trivial | refine ⟨⟨_, rfl, .inl ⟨rfl, rfl⟩⟩, ?_⟩ | refine ⟨⟨_, rfl, .inl ⟨slEq rfl tN, rfl⟩⟩, ?_⟩ | refine ⟨⟨_, rfl, .inl ⟨ivEq tX, rfl⟩⟩, ?_⟩)) (by exact ⟨ent_same rfl rfl rfl tL, ⟨ent_same rfl rfl rfl tL, ⟨ent_same rfl rfl rfl tL, ⟨ent_own rfl rfl rfl, ⟨ent_own rfl rfl rfl, ⟨ent_same rfl rfl rfl tL, trivial⟩⟩⟩⟩⟩⟩) (fun _ h => by simp at h) hK1
          · have hie : i = g.m := by have := of_decide_eq_false hb; omega
            subst hie
            have hFm : ∀ x ∈ fil (fstB g D a) g.m, ∃ w : Nat, x = w ∧ w < g.m := fun x hx => by
              obtain ⟨w, h1, h2, _⟩ := fil_mem.1 hx
              exact ⟨w, h1, h2⟩
            have hHR : ∀ v, hopR g D a v = if offB D a v = true then [] else (fil (fstB g D a) g.m).filter fun y => hopB g D a v y.toNat := fun v => rfl
            generalize fil (fstB g D a) g.m = F1 at *
            refine Next.weak [0, 1, 2, 3, 4] [5] (by rfl) (keepsN hC _ rfl) (G' := [(1, IV .i64 a), (2, .ptr 0 3 0 0), (4, .ptr 1 4 0 0), (7, .fz (VLL (matF g.m D))), (8, IV .i64 g.m), (9, .ptr 2 4 0 0), (10, .fz (VI F1))]) (H' := [(0, OG g), (1, OTr zeroT), (2, some (.refs 4 [[.fz (If .i64 a), .fz (VI (rowF g.m (D a))), .sl 3 1 0 g.m, .sl 4 1 0 g.m]])), (3, some (.refs 1 (ownL 1 (rowsI (preL g.m (hopR g D a) 0))))), (4, some (.refs 1 (ownL 1 (rowsI (preL g.m (parR g D a) 0)))))]) (by exact ⟨⟨_, rfl, .inl ⟨rfl, rfl⟩⟩, ⟨⟨_, rfl, .inl ⟨rfl, rfl⟩⟩, ⟨⟨_, rfl, .inl ⟨rfl, rfl⟩⟩, ⟨⟨_, rfl, .inl ⟨rfl, rfl⟩⟩, ⟨⟨_, rfl, .inl ⟨rfl, rfl⟩⟩, ⟨⟨_, rfl, .inl ⟨rfl, rfl⟩⟩, ⟨⟨_, rfl, .inr ⟨_, rfl, .sl _ _ _ _ _ _ rfl rfl (take_all0 (List.length_map _)) (List.length_map _)⟩⟩, trivial⟩⟩⟩⟩⟩⟩⟩) (by exact ⟨ent_same rfl rfl rfl tL, ⟨ent_same rfl rfl rfl tL, ⟨ent_same rfl rfl rfl tL, ⟨ent_own rfl rfl rfl, ⟨ent_own rfl rfl rfl, trivial⟩⟩⟩⟩⟩) (fun id h => by simp at h; subst h; exact ⟨_, rfl⟩) ?_
            refine nK2 ?_
            refine s_reg rfl ?_
            refine Run.pure (dd := some 12) rfl rfl (op_assign rfl (Opd.const _)) ?_
            refine Run.nil (FinR.mk ?_)
            refine nK2 ?_
            refine n_loop (ι := Nat) (fun v => ([(1, IV .i64 a), (2, .ptr 0 3 0 0), (4, .ptr 1 4 0 0), (7, .fz (VLL (matF g.m D))), (8, IV .i64 g.m), (9, .ptr 2 4 0 0), (10, .fz (VI F1)), (12, IV .i64 v)], [(0, OG g), (1, OTr zeroT), (2, some (.refs 4 [[.fz (If .i64 a), .fz (VI (rowF g.m (D a))), .sl 3 1 0 g.m, .sl 4 1 0 g.m]])), (3, some (.refs 1 (ownL 1 (rowsI (preL g.m (hopR g D a) v))))), (4, some (.refs 1 (ownL 1 (rowsI (preL g.m (parR g D a) v)))))], 5)) (fun v => v ≤ g.m) (fun v => g.m - v) 0 (Nat.zero_le _) ?_ ?_
            · refine Next.weak [0, 1, 2, 3, 4] [] (by rfl) (keepsN hC _ rfl) (by repeat (first | exact trivial | refine ⟨⟨_, rfl, .inl ⟨rfl, rfl⟩⟩, ?_⟩ | refine ⟨⟨_, rfl, .inl ⟨slEq rfl tN, rfl⟩⟩, ?_⟩ | refine ⟨⟨_, rfl, .inl ⟨ivEq tX, rfl⟩⟩, ?_⟩)) (by exact ⟨ent_same rfl rfl rfl tL, ⟨ent_same rfl rfl rfl tL, ⟨ent_same rfl rfl rfl tL, ⟨ent_own rfl rfl rfl, ⟨ent_own rfl rfl rfl, trivial⟩⟩⟩⟩⟩) (fun _ h => by simp at h) rel_intro
            · intro v hv K hK
              try dsimp only at hv hK ⊢
              refine nK2 ?_
              refine s_reg rfl ?_
              refine Run.pure (dd := some 77) rfl rfl (op_move rfl (Opd.tmp _ _ rfl)) ?_
              refine Run.pure (dd := some 78) rfl rfl (op_move rfl (Opd.tmp _ _ rfl)) ?_
              refine Run.pure (dd := some 79) rfl rfl (op_lss rfl (Opd.tmp _ _ rfl) (Opd.tmp _ _ rfl)) ?_
              refine Run.nil (FinR.mk ?_)
              refine nK2 ?_
              refine n_cond _ rfl (fun hb => ?_) (fun hb => ?_)
              · have hlv : v < g.m := by have := of_decide_eq_true hb; omega
                have hrv := row_row g.m (D a) hlv
                have hK1 := hK (v + 1) (by omega) (by omega)
                clear hK
                refine nK2 ?_
                refine s_reg rfl ?_
                refine Run.pure (dd := some 82) rfl rfl (op_move rfl (Opd.tmp _ _ rfl)) ?_
                refine Run.pure (dd := some 83) rfl rfl (op_move rfl (Opd.tmp _ _ rfl)) ?_
                refine Run.pure (dd := some 84) rfl rfl (op_eql rfl (Opd.tmp _ _ rfl) (Opd.tmp _ _ rfl)) ?_
                refine Run.pure (dd := some 85) rfl rfl (op_move rfl (Opd.tmp _ _ rfl)) ?_
                refine Run.pureG (dd := some 86) rfl rfl rfl tG (op_move rfl (Opd.tmp _ _ rfl)) ?_
                refine Run.pureG (dd := some 87) rfl rfl rfl tG (op_move rfl (Opd.tmp _ _ rfl)) ?_
                refine Run.pureG (dd := some 88) rfl rfl rfl tG (op_idx_fz a rfl (Opd.topt _ _ _ rfl tO) (Opd.topt _ _ _ rfl tO) (by intro _; exact ⟨rfl, hma⟩)) ?_
                refine Run.pureG (dd := some 89) rfl rfl rfl tG (op_load1_fz rfl (Opd.topt _ _ _ rfl tO) rfl) ?_
                refine Run.pureG (dd := some 90) rfl rfl rfl tG (op_move rfl (Opd.tmp _ _ rfl)) ?_
                refine Run.pureG (dd := some 91) rfl rfl rfl tG (op_idx_fz v rfl (Opd.topt _ _ _ rfl tO) (Opd.topt _ _ _ rfl tO) (by intro _; exact ⟨rfl, hrv⟩)) ?_
                refine Run.pureG (dd := some 92) rfl rfl rfl tG (op_load1_fz rfl (Opd.topt _ _ _ rfl tO) rfl) ?_
                refine Run.pureG (dd := some 93) rfl rfl rfl tG (op_lss rfl (Opd.topt _ _ _ rfl tO) (Opd.const _)) ?_
                refine Run.pure (dd := some 94) rfl rfl (op_pick_or rfl (Opd.tmp _ _ rfl) (Opd.topt _ _ _ rfl tO)) ?_
                refine Run.nil (FinR.mk ?_)
                refine nK2 ?_
                refine n_cond _ rfl (fun hb => ?_) (fun hb => ?_)
                · have hc : offB D a v = true := by unfold offB; simpa [Int.natCast_inj] using hb
                  rw [← preL_skip (f := hopR g D a) (by rw [hHR, if_pos hc]), ← preL_skip (f := parR g D a) (by unfold parR; rw [if_pos hc])] at hK1
                  refine nK2 ?_
                  refine s_reg rfl ?_
                  refine Run.pure (dd := some 80) rfl rfl (op_move rfl (Opd.tmp _ _ rfl)) ?_
                  refine Run.pure (dd := some 81) rfl rfl (op_add rfl (Opd.tmp _ _ rfl) (Opd.const _) tI) ?_
                  refine Run.pure (dd := some 12) rfl rfl (op_assign rfl (Opd.tmp _ _ rfl)) ?_
                  refine Run.nil (FinR.mk ?_)
                  refine nK2 ?_
                  refine Next.weak [0, 1, 2, 3, 4] [] (by rfl) (keepsN hC _ rfl) (by repeat (first | exact trivial | refine ⟨⟨_, rfl, .inl ⟨rfl, rfl⟩⟩, ?_⟩ | refine ⟨⟨_, rfl, .inl ⟨slEq rfl tN, rfl⟩⟩, ?_⟩ | refine ⟨⟨_, rfl, .inl ⟨ivEq tX, rfl⟩⟩, ?_⟩)) (by exact ⟨ent_same rfl rfl rfl tL, ⟨ent_same rfl rfl rfl tL, ⟨ent_same rfl rfl rfl tL, ⟨ent_own rfl rfl rfl, ⟨ent_own rfl rfl rfl, trivial⟩⟩⟩⟩⟩) (fun _ h => by simp at h) hK1
                · have hc : ¬ offB D a v = true := fun h => by rw [Bool.eq_false_iff] at hb; apply hb; unfold offB at h; simpa [Int.natCast_inj] using h
                  have hpr : parR g D a v = fil (parB g D a v) g.m := by unfold parR; rw [if_neg hc]
                  have hhr := hHR v
                  rw [if_neg hc] at hhr
                  have hpl := preL_len g.m (parR g D a) v
                  have hhl := preL_len g.m (hopR g D a) v
                  have hp0 := preL_nil (f := parR g D a) hlv
                  have hh0 := preL_nil (f := hopR g D a) hlv
                  rw [← preL_set g.m (hopR g D a) v, ← preL_set g.m (parR g D a) v, hpr, hhr] at hK1
                  generalize preL g.m (parR g D a) v = LP at *
                  generalize preL g.m (hopR g D a) v = LH at *
                  clear hb hpr hhr hHR
                  refine nK2 ?_
                  refine s_reg rfl ?_
                  refine Run.pure (dd := some 13) rfl rfl (op_assign rfl (Opd.const _)) ?_
                  refine Run.nil (FinR.mk ?_)
                  refine nK2 ?_
                  refine n_loop (ι := Nat) (fun u => ([(1, IV .i64 a), (2, .ptr 0 3 0 0), (4, .ptr 1 4 0 0), (7, .fz (VLL (matF g.m D))), (8, IV .i64 g.m), (9, .ptr 2 4 0 0), (10, .fz (VI F1)), (12, IV .i64 v), (13, IV .i64 u)], [(0, OG g), (1, OTr zeroT), (2, some (.refs 4 [[.fz (If .i64 a), .fz (VI (rowF g.m (D a))), .sl 3 1 0 g.m, .sl 4 1 0 g.m]])), (3, some (.refs 1 (ownL 1 (rowsI LH)))), (4, some (.refs 1 (ownL 1 (rowsI (LP.set v (fil (parB g D a v) u))))))], 5)) (fun u => u ≤ g.m) (fun u => g.m - u) 0 (Nat.zero_le _) ?_ ?_
                  · refine Next.weak [0, 1, 2, 3, 4] [] (by rfl) (keepsN hC _ rfl) (by repeat (first | exact trivial | refine ⟨⟨_, rfl, .inl ⟨rfl, rfl⟩⟩, ?_⟩ | refine ⟨⟨_, rfl, .inl ⟨slEq rfl tN, rfl⟩⟩, ?_⟩ | refine ⟨⟨_, rfl, .inl ⟨ivEq tX, rfl⟩⟩, ?_⟩)) (by exact ⟨ent_same rfl rfl rfl tL, ⟨ent_same rfl rfl rfl tL, ⟨ent_same rfl rfl rfl tL, ⟨ent_own rfl rfl rfl, ⟨ent_own rfl rfl (congrArg (fun l => some (Ob.refs 1 (ownL 1 (rowsI l)))) hp0.symm), trivial⟩⟩⟩⟩⟩) (fun _ h => by simp at h) rel_intro
                  · intro u hu K2 hK2
                    try dsimp only at hu hK2 ⊢
                    have hfu := fil_len (parB g D a v) u
                    refine nK2 ?_
                    refine s_reg rfl ?_
                    refine Run.pure (dd := some 95) rfl rfl (op_move rfl (Opd.tmp _ _ rfl)) ?_
                    refine Run.pure (dd := some 96) rfl rfl (op_move rfl (Opd.tmp _ _ rfl)) ?_
                    refine Run.pure (dd := some 97) rfl rfl (op_lss rfl (Opd.tmp _ _ rfl) (Opd.tmp _ _ rfl)) ?_
                    refine Run.nil (FinR.mk ?_)
                    refine nK2 ?_
                    refine n_cond _ rfl (fun hb => ?_) (fun hb => ?_)
                    · have hlu : u < g.m := by have := of_decide_eq_true hb; omega
                      have hru := row_row g.m (D a) hlu
                      have hcu := rcost_c g u v hel2
                      have hcb1 := hcb u v
                      have hdb1 := hdb a u ha hlu
                      have hK3 := hK2 (u + 1) (by omega) (by omega)
                      clear hK2
                      rw [fil_succ] at hK3
                      have hPB : parB g D a v u = ((costL u v g.es).2 && decide (0 ≤ D a u) && decide (D a u + (costL u v g.es).1 = D a v)) := rfl
                      generalize parB g D a v u = pb at *
                      generalize fil (parB g D a v) u = row at *
                      have hrg := rowsI_get (ll := LP.set v row) (v := v) (by rw [List.length_set]; omega)
                      rw [set_at (by omega)] at hrg
                      have hll : (rowsI (LP.set v row)).length = g.m := by rw [rowsI_len, List.length_set]; omega
                      refine nK2 ?_
                      refine s_reg rfl ?_
                      refine Run.load (dd := some 101) rfl rfl (op_loadw_flat rfl (Opd.tmp _ _ rfl) tH rfl) ?_
                      refine Run.pure (dd := some 102) rfl rfl (op_move rfl (Opd.tmp _ _ rfl)) ?_
                      refine Run.pure (dd := some 103) rfl rfl (op_move rfl (Opd.tmp _ _ rfl)) ?_
                      refine Run.pure (dd := some 104) rfl rfl (op_call_pure (fun _ => hcu) rfl (Opd.func _) (Opds.cons _ _ _ _ (Opd.tmp _ _ rfl) (Opds.cons _ _ _ _ (Opd.tmp _ _ rfl) (Opds.cons _ _ _ _ (Opd.tmp _ _ rfl) Opds.nil)))) ?_
                      refine Run.pure (dd := some 100) rfl rfl (op_move rfl (Opd.tmp _ _ rfl)) ?_
                      refine Run.pure (dd := some 105) rfl rfl (op_extract_fz rfl (Opd.tmp _ _ rfl) rfl) ?_
                      refine Run.pure (dd := some 106) rfl rfl (op_extract_fz rfl (Opd.tmp _ _ rfl) rfl) ?_
                      refine Run.pure (dd := some 14) rfl rfl (op_assign rfl (Opd.tmp _ _ rfl)) ?_
                      refine Run.pure (dd := some 15) rfl rfl (op_assign rfl (Opd.tmp _ _ rfl)) ?_
                      refine Run.nil (FinR.mk ?_)
                      refine nK2 ?_
                      refine s_draw mixed ?_
                      refine Run.pure (dd := some 107) rfl rfl (op_move rfl (Opd.tmp _ _ rfl)) ?_
                      refine Run.pure (dd := some 108) rfl rfl (op_move rfl (Opd.tmp _ _ rfl)) ?_
                      refine Run.pureG (dd := some 109) rfl rfl rfl tG (op_move rfl (Opd.tmp _ _ rfl)) ?_
                      refine Run.pureG (dd := some 110) rfl rfl rfl tG (op_move rfl (Opd.tmp _ _ rfl)) ?_
                      refine Run.pureG (dd := some 111) rfl rfl rfl tG (op_idx_fz a rfl (Opd.topt _ _ _ rfl tO) (Opd.topt _ _ _ rfl tO) (by intro _; exact ⟨rfl, hma⟩)) ?_
                      refine Run.pureG (dd := some 112) rfl rfl rfl tG (op_load1_fz rfl (Opd.topt _ _ _ rfl tO) rfl) ?_
                      refine Run.pureG (dd := some 113) rfl rfl rfl tG (op_move rfl (Opd.tmp _ _ rfl)) ?_
                      refine Run.pureG (dd := some 114) rfl rfl rfl tG (op_idx_fz u rfl (Opd.topt _ _ _ rfl tO) (Opd.topt _ _ _ rfl tO) (by intro _; exact ⟨rfl, hru⟩)) ?_
                      refine Run.pureG (dd := some 115) rfl rfl rfl tG (op_load1_fz rfl (Opd.topt _ _ _ rfl tO) rfl) ?_
                      refine Run.pureG (dd := some 116) rfl rfl rfl tG (op_geq rfl (Opd.topt _ _ _ rfl tO) (Opd.const _)) ?_
                      refine Run.pure (dd := some 117) rfl rfl (op_pick_and rfl (Opd.tmp _ _ rfl) (Opd.topt _ _ _ rfl tO)) ?_
                      refine Run.pure (dd := some 118) rfl rfl (op_move rfl (Opd.tmp _ _ rfl)) ?_
                      refine Run.pureG (dd := some 119) rfl rfl rfl tG (op_move rfl (Opd.tmp _ _ rfl)) ?_
                      refine Run.pureG (dd := some 120) rfl rfl rfl tG (op_move rfl (Opd.tmp _ _ rfl)) ?_
                      refine Run.pureG (dd := some 121) rfl rfl rfl tG (op_idx_fz a rfl (Opd.topt _ _ _ rfl tO) (Opd.topt _ _ _ rfl tO) (by intro _; exact ⟨rfl, hma⟩)) ?_
                      refine Run.pureG (dd := some 122) rfl rfl rfl tG (op_load1_fz rfl (Opd.topt _ _ _ rfl tO) rfl) ?_
                      refine Run.pureG (dd := some 123) rfl rfl rfl tG (op_move rfl (Opd.tmp _ _ rfl)) ?_
                      refine Run.pureG (dd := some 124) rfl rfl rfl tG (op_idx_fz u rfl (Opd.topt _ _ _ rfl tO) (Opd.topt _ _ _ rfl tO) (by intro _; exact ⟨rfl, hru⟩)) ?_
                      refine Run.pureG (dd := some 125) rfl rfl rfl tG (op_load1_fz rfl (Opd.topt _ _ _ rfl tO) rfl) ?_
                      refine Run.pureG (dd := some 126) rfl rfl rfl tG (op_move rfl (Opd.tmp _ _ rfl)) ?_
                      refine Run.pureG (dd := some 127) rfl rfl rfl tG (op_add rfl (Opd.topt _ _ _ rfl tO) (Opd.topt _ _ _ rfl tO) tI) ?_
                      refine Run.pureG (dd := some 128) rfl rfl rfl tG (op_move rfl (Opd.tmp _ _ rfl)) ?_
                      refine Run.pureG (dd := some 129) rfl rfl rfl tG (op_move rfl (Opd.tmp _ _ rfl)) ?_
                      refine Run.pureG (dd := some 130) rfl rfl rfl tG (op_idx_fz a rfl (Opd.topt _ _ _ rfl tO) (Opd.topt _ _ _ rfl tO) (by intro _; exact ⟨rfl, hma⟩)) ?_
                      refine Run.pureG (dd := some 131) rfl rfl rfl tG (op_load1_fz rfl (Opd.topt _ _ _ rfl tO) rfl) ?_
                      refine Run.pureG (dd := some 132) rfl rfl rfl tG (op_move rfl (Opd.tmp _ _ rfl)) ?_
                      refine Run.pureG (dd := some 133) rfl rfl rfl tG (op_idx_fz v rfl (Opd.topt _ _ _ rfl tO) (Opd.topt _ _ _ rfl tO) (by intro _; exact ⟨rfl, hrv⟩)) ?_
                      refine Run.pureG (dd := some 134) rfl rfl rfl tG (op_load1_fz rfl (Opd.topt _ _ _ rfl tO) rfl) ?_
                      refine Run.pureG (dd := some 135) rfl rfl rfl tG (op_eql rfl (Opd.topt _ _ _ rfl tO) (Opd.topt _ _ _ rfl tO)) ?_
                      refine Run.pure (dd := some 136) rfl rfl (op_pick_and rfl (Opd.tmp _ _ rfl) (Opd.topt _ _ _ rfl tO)) ?_
                      refine Run.nil (FinD.mk (by kernel_rfl) ?_)
                      refine nK2 ?_
                      refine n_cond _ rfl (fun hb => ?_) (fun hb => ?_)
                      · rw [show pb = true from hPB.trans hb, if_pos rfl, ← setI_set (l := row), List.map_append] at hK3
                        generalize rowsI (LP.set v row) = irs at *
                        refine nK2 ?_
                        refine Next.take 4 v 0 rfl (ownL_get hrg) rfl rfl ?_
                        have hs1 := set_get (ownL 1 irs) v [.sl 5 1 0 (row.map encN).length] (by rw [ownL_len, hll]; omega)
                        refine nK2 ?_
                        refine s_draw mixed ?_
                        refine Run.pure (dd := some 137) rfl rfl (op_fld_ptr (by decide) rfl (Opd.tmp _ _ rfl)) ?_
                        refine Run.load (dd := some 138) rfl rfl (op_load1_refs rfl (Opd.tmp _ _ rfl) tH rfl) ?_
                        refine Run.pure (dd := some 139) rfl rfl (op_move rfl (Opd.tmp _ _ rfl)) ?_
                        refine Run.pure (dd := some 140) rfl rfl (op_fld_ptr (by decide) rfl (Opd.tmp _ _ rfl)) ?_
                        refine Run.load (dd := some 141) rfl rfl (op_load1_refs rfl (Opd.tmp _ _ rfl) tH rfl) ?_
                        refine Run.pure (dd := some 142) rfl rfl (op_move rfl (Opd.tmp _ _ rfl)) ?_
                        refine Run.pure (dd := some 143) rfl rfl (op_idx_sl0 v rfl (Opd.tmp _ _ rfl) (Opd.tmp _ _ rfl) (by intro _; exact ⟨rfl, hlv⟩)) ?_
                        refine Run.load (dd := some 144) rfl rfl (op_load1_refs rfl (Opd.tmp _ _ rfl) (by intro _; exact ⟨rfl, hs1⟩) rfl) ?_
                        refine Run.pure (dd := some 145) rfl rfl (op_move rfl (Opd.tmp _ _ rfl)) ?_
                        refine Run.pure (dd := some 146) rfl rfl (op_buildSlice_fz rfl (RowsF.cons _ _ _ _ _ _ (Opd.tmp _ _ rfl) tC (by rfl) (RowsF.nil _)) rfl rfl) ?_
                        refine Run.effW (dd := some 147) rfl rfl (op_append rfl (Opd.tmp _ _ rfl) (by first | exact Opd.tmp _ _ rfl | exact Opd.nil _ _ (Opd.tmp _ _ rfl)) rfl (by first | rfl | simp) rfl rfl tB tB) (by first | exact ext_call | exact tE) ?_
                        refine Run.pure (dd := some 148) rfl rfl (op_idx_sl0 v rfl (Opd.tmp _ _ rfl) (Opd.tmp _ _ rfl) (by intro _; exact ⟨rfl, hlv⟩)) ?_
                        refine Run.effW (dd := none) rfl rfl (op_store_refs rfl (Opd.tmp _ _ rfl) (Opd.tmp _ _ rfl) tP rfl rfl hs1 tS) (by first | exact ext_call | exact tE) ?_
                        refine Run.nil (FinD.mk (by kernel_rfl) ?_)
                        refine nK2 ?_
                        refine s_reg rfl ?_
                        refine Run.pure (dd := some 98) rfl rfl (op_move rfl (Opd.tmp _ _ rfl)) ?_
                        refine Run.pure (dd := some 99) rfl rfl (op_add rfl (Opd.tmp _ _ rfl) (Opd.const _) tI) ?_
                        refine Run.pure (dd := some 13) rfl rfl (op_assign rfl (Opd.tmp _ _ rfl)) ?_
                        refine Run.nil (FinR.mk ?_)
                        refine nK2 ?_
                        refine Next.untake 4 v 0 rfl (set_get _ _ _ (by rw [List.length_set, ownL_len, hll]; omega)) rfl rfl (by simp) rfl ?_
                        refine Next.weak [0, 1, 2, 3, 4] [] (by rfl) (keepsN hC _ rfl) (by repeat (first | exact trivial | refine ⟨⟨_, rfl, .inl ⟨rfl, rfl⟩⟩, ?_⟩ | refine ⟨⟨_, rfl, .inl ⟨slEq rfl tN, rfl⟩⟩, ?_⟩ | refine ⟨⟨_, rfl, .inl ⟨ivEq tX, rfl⟩⟩, ?_⟩)) (by exact ⟨ent_same rfl rfl rfl tL, ⟨ent_same rfl rfl rfl tL, ⟨ent_same rfl rfl rfl tL, ⟨ent_own rfl rfl rfl, ⟨ent_own rfl rfl (congrArg (fun r => some (Ob.refs 1 r)) own_back), trivial⟩⟩⟩⟩⟩) (fun _ h => by simp at h) hK3
                      · rw [show pb = false from hPB.trans hb, if_neg (by simp), List.append_nil] at hK3
                        refine nK2 ?_
                        refine s_reg rfl ?_
                        refine Run.pure (dd := some 98) rfl rfl (op_move rfl (Opd.tmp _ _ rfl)) ?_
                        refine Run.pure (dd := some 99) rfl rfl (op_add rfl (Opd.tmp _ _ rfl) (Opd.const _) tI) ?_
                        refine Run.pure (dd := some 13) rfl rfl (op_assign rfl (Opd.tmp _ _ rfl)) ?_
                        refine Run.nil (FinR.mk ?_)
                        refine nK2 ?_
                        refine Next.weak [0, 1, 2, 3, 4] [] (by rfl) (keepsN hC _ rfl) (by repeat (first | exact trivial | refine ⟨⟨_, rfl, .inl ⟨rfl, rfl⟩⟩, ?_⟩ | refine ⟨⟨_, rfl, .inl ⟨slEq rfl tN, rfl⟩⟩, ?_⟩ | refine ⟨⟨_, rfl, .inl ⟨ivEq tX, rfl⟩⟩, ?_⟩)) (by exact ⟨ent_same rfl rfl rfl tL, ⟨ent_same rfl rfl rfl tL, ⟨ent_same rfl rfl rfl tL, ⟨ent_own rfl rfl rfl, ⟨ent_own rfl rfl rfl, trivial⟩⟩⟩⟩⟩) (fun _ h => by simp at h) hK3
                    · have hue : u = g.m := by have := of_decide_eq_false hb; omega
                      subst hue
                      clear hK2
                      generalize LP.set v (fil (parB g D a v) g.m) = LP2 at *
                      refine nK2 ?_
                      refine s_reg rfl ?_
                      refine Run.pure (dd := some 16) rfl rfl (op_assign rfl (Opd.const _)) ?_
                      refine Run.nil (FinR.mk ?_)
                      refine nK2 ?_
                      refine n_loop (ι := Nat) (fun i => ([(1, IV .i64 a), (2, .ptr 0 3 0 0), (4, .ptr 1 4 0 0), (7, .fz (VLL (matF g.m D))), (8, IV .i64 g.m), (9, .ptr 2 4 0 0), (10, .fz (VI F1)), (12, IV .i64 v), (16, IV .i64 i)], [(0, OG g), (1, OTr zeroT), (2, some (.refs 4 [[.fz (If .i64 a), .fz (VI (rowF g.m (D a))), .sl 3 1 0 g.m, .sl 4 1 0 g.m]])), (3, some (.refs 1 (ownL 1 (rowsI (LH.set v ((F1.take i).filter fun y => hopB g D a v y.toNat)))))), (4, some (.refs 1 (ownL 1 (rowsI LP2))))], 5)) (fun i => i ≤ F1.length) (fun i => F1.length - i) 0 (Nat.zero_le _) ?_ ?_
                      · refine Next.weak [0, 1, 2, 3, 4] [] (by rfl) (keepsN hC _ rfl) (by repeat (first | exact trivial | refine ⟨⟨_, rfl, .inl ⟨rfl, rfl⟩⟩, ?_⟩ | refine ⟨⟨_, rfl, .inl ⟨slEq rfl tN, rfl⟩⟩, ?_⟩ | refine ⟨⟨_, rfl, .inl ⟨ivEq tX, rfl⟩⟩, ?_⟩)) (by exact ⟨ent_same rfl rfl rfl tL, ⟨ent_same rfl rfl rfl tL, ⟨ent_same rfl rfl rfl tL, ⟨ent_own rfl rfl (congrArg (fun l => some (Ob.refs 1 (ownL 1 (rowsI l)))) hh0.symm), ⟨ent_own rfl rfl rfl, trivial⟩⟩⟩⟩⟩) (fun _ h => by simp at h) rel_intro
                      · intro i hi K2 hK2
                        try dsimp only at hi hK2 ⊢
                        refine nK2 ?_
                        refine s_reg rfl ?_
                        refine Run.pure (dd := some 149) rfl rfl (op_move rfl (Opd.tmp _ _ rfl)) ?_
                        refine Run.pure (dd := some 150) rfl rfl (op_move rfl (Opd.tmp _ _ rfl)) ?_
                        refine Run.pure (dd := some 151) rfl rfl (op_len_fz rfl (by first | exact Opd.tmp _ _ rfl | exact Opd.nil _ _ (Opd.tmp _ _ rfl)) (by first | exact List.length_map _ | rfl)) ?_
                        refine Run.pure (dd := some 152) rfl rfl (op_lss rfl (Opd.tmp _ _ rfl) (Opd.tmp _ _ rfl)) ?_
                        refine Run.nil (FinR.mk ?_)
                        refine nK2 ?_
                        refine n_cond _ rfl (fun hb => ?_) (fun hb => ?_)
                        · have hli : i < F1.length := by simp at hb; omega
                          have hrF := row_at' encN F1 i hli
                          obtain ⟨w, hw, hwn⟩ := hFm _ (List.getElem_mem hli)
                          have hK3 := hK2 (i + 1) (by omega) (by omega)
                          clear hK2
                          rw [take_filter _ _ _ hli, hw, Int.toNat_natCast] at hK3
                          rw [hw] at hrF
                          have hfl : ((F1.take i).filter fun y => hopB g D a v y.toNat).length ≤ g.m := by
                            have h1 := List.length_filter_le (fun y => hopB g D a v y.toNat) (F1.take i)
                            have h2 : (F1.take i).length ≤ F1.length := List.length_take_le' _ _
                            omega
                          have hrw := row_row g.m (D w) hlv
                          have hraw := row_row g.m (D a) hwn
                          have hmw := mat_row g.m D hwn
                          have hdb1 := hdb a w ha hwn
                          have hdb2 := hdb w v hwn hlv
                          have hPB : hopB g D a v w = (decide (w = v) || (decide ((w : Int) < g.r) && decide (0 ≤ D w v) && decide (D a w + D w v = D a v))) := rfl
                          generalize hopB g D a v w = pb at *
                          generalize (F1.take i).filter (fun y => hopB g D a v y.toNat) = row at *
                          have hrg := rowsI_get (ll := LH.set v row) (v := v) (by rw [List.length_set]; omega)
                          rw [set_at (by omega)] at hrg
                          have hll : (rowsI (LH.set v row)).length = g.m := by rw [rowsI_len, List.length_set]; omega
                          refine nK2 ?_
                          refine s_reg rfl ?_
                          refine Run.pure (dd := some 155) rfl rfl (op_move rfl (Opd.tmp _ _ rfl)) ?_
                          refine Run.pure (dd := some 156) rfl rfl (op_move rfl (Opd.tmp _ _ rfl)) ?_
                          refine Run.pure (dd := some 157) rfl rfl (op_idx_fz i rfl (Opd.tmp _ _ rfl) (Opd.tmp _ _ rfl) (by intro _; exact ⟨rfl, hrF⟩)) ?_
                          refine Run.pure (dd := some 158) rfl rfl (op_load1_fz rfl (Opd.tmp _ _ rfl) rfl) ?_
                          refine Run.pure (dd := some 17) rfl rfl (op_assign rfl (Opd.tmp _ _ rfl)) ?_
                          refine Run.nil (FinR.mk ?_)
                          refine nK2 ?_
                          refine s_draw mixed ?_
                          refine Run.pure (dd := some 159) rfl rfl (op_move rfl (Opd.tmp _ _ rfl)) ?_
                          refine Run.pure (dd := some 160) rfl rfl (op_move rfl (Opd.tmp _ _ rfl)) ?_
                          refine Run.pure (dd := some 161) rfl rfl (op_eql rfl (Opd.tmp _ _ rfl) (Opd.tmp _ _ rfl)) ?_
                          refine Run.pure (dd := some 162) rfl rfl (op_move rfl (Opd.tmp _ _ rfl)) ?_
                          refine Run.pureG (dd := some 163) rfl rfl rfl tG (op_move rfl (Opd.tmp _ _ rfl)) ?_
                          refine Run.pureG (dd := some 164) rfl rfl rfl tG (op_fld_ptr (by decide) rfl (Opd.tmp _ _ rfl)) ?_
                          refine Run.loadG (dd := some 165) rfl rfl rfl tG (op_load1_flat rfl (Opd.topt _ _ _ rfl tO) tH rfl) ?_
                          refine Run.pureG (dd := some 166) rfl rfl rfl tG (op_lss rfl (Opd.topt _ _ _ rfl tO) (Opd.topt _ _ _ rfl tO)) ?_
                          refine Run.pureG (dd := some 167) rfl rfl rfl tG (op_move rfl (Opd.topt _ _ _ rfl tO)) ?_
                          refine Run.pureG (dd := some 168) rfl rfl rfl tG (op_move rfl (Opd.tmp _ _ rfl)) ?_
                          refine Run.pureG (dd := some 169) rfl rfl rfl tG (op_move rfl (Opd.tmp _ _ rfl)) ?_
                          refine Run.pureG (dd := some 170) rfl rfl rfl tG (op_idx_fz w rfl (Opd.topt _ _ _ rfl tO) (Opd.topt _ _ _ rfl tO) (by intro _; exact ⟨rfl, hmw⟩)) ?_
                          refine Run.pureG (dd := some 171) rfl rfl rfl tG (op_load1_fz rfl (Opd.topt _ _ _ rfl tO) rfl) ?_
                          refine Run.pureG (dd := some 172) rfl rfl rfl tG (op_move rfl (Opd.tmp _ _ rfl)) ?_
                          refine Run.pureG (dd := some 173) rfl rfl rfl tG (op_idx_fz v rfl (Opd.topt _ _ _ rfl tO) (Opd.topt _ _ _ rfl tO) (by intro _; exact ⟨rfl, hrw⟩)) ?_
                          refine Run.pureG (dd := some 174) rfl rfl rfl tG (op_load1_fz rfl (Opd.topt _ _ _ rfl tO) rfl) ?_
                          refine Run.pureG (dd := some 175) rfl rfl rfl tG (op_geq rfl (Opd.topt _ _ _ rfl tO) (Opd.const _)) ?_
                          refine Run.pureG (dd := some 176) rfl rfl rfl tG (op_pick_and rfl (Opd.topt _ _ _ rfl tO) (Opd.topt _ _ _ rfl tO)) ?_
                          refine Run.pureG (dd := some 177) rfl rfl rfl tG (op_move rfl (Opd.topt _ _ _ rfl tO)) ?_
                          refine Run.pureG (dd := some 178) rfl rfl rfl tG (op_move rfl (Opd.tmp _ _ rfl)) ?_
                          refine Run.pureG (dd := some 179) rfl rfl rfl tG (op_move rfl (Opd.tmp _ _ rfl)) ?_
                          refine Run.pureG (dd := some 180) rfl rfl rfl tG (op_idx_fz a rfl (Opd.topt _ _ _ rfl tO) (Opd.topt _ _ _ rfl tO) (by intro _; exact ⟨rfl, hma⟩)) ?_
                          refine Run.pureG (dd := some 181) rfl rfl rfl tG (op_load1_fz rfl (Opd.topt _ _ _ rfl tO) rfl) ?_
                          refine Run.pureG (dd := some 182) rfl rfl rfl tG (op_move rfl (Opd.tmp _ _ rfl)) ?_
                          refine Run.pureG (dd := some 183) rfl rfl rfl tG (op_idx_fz w rfl (Opd.topt _ _ _ rfl tO) (Opd.topt _ _ _ rfl tO) (by intro _; exact ⟨rfl, hraw⟩)) ?_
                          refine Run.pureG (dd := some 184) rfl rfl rfl tG (op_load1_fz rfl (Opd.topt _ _ _ rfl tO) rfl) ?_
                          refine Run.pureG (dd := some 185) rfl rfl rfl tG (op_move rfl (Opd.tmp _ _ rfl)) ?_
                          refine Run.pureG (dd := some 186) rfl rfl rfl tG (op_move rfl (Opd.tmp _ _ rfl)) ?_
                          refine Run.pureG (dd := some 187) rfl rfl rfl tG (op_idx_fz w rfl (Opd.topt _ _ _ rfl tO) (Opd.topt _ _ _ rfl tO) (by intro _; exact ⟨rfl, hmw⟩)) ?_
                          refine Run.pureG (dd := some 188) rfl rfl rfl tG (op_load1_fz rfl (Opd.topt _ _ _ rfl tO) rfl) ?_
                          refine Run.pureG (dd := some 189) rfl rfl rfl tG (op_move rfl (Opd.tmp _ _ rfl)) ?_
                          refine Run.pureG (dd := some 190) rfl rfl rfl tG (op_idx_fz v rfl (Opd.topt _ _ _ rfl tO) (Opd.topt _ _ _ rfl tO) (by intro _; exact ⟨rfl, hrw⟩)) ?_
                          refine Run.pureG (dd := some 191) rfl rfl rfl tG (op_load1_fz rfl (Opd.topt _ _ _ rfl tO) rfl) ?_
                          refine Run.pureG (dd := some 192) rfl rfl rfl tG (op_add rfl (Opd.topt _ _ _ rfl tO) (Opd.topt _ _ _ rfl tO) tI) ?_
                          refine Run.pureG (dd := some 193) rfl rfl rfl tG (op_move rfl (Opd.tmp _ _ rfl)) ?_
                          refine Run.pureG (dd := some 194) rfl rfl rfl tG (op_move rfl (Opd.tmp _ _ rfl)) ?_
                          refine Run.pureG (dd := some 195) rfl rfl rfl tG (op_idx_fz a rfl (Opd.topt _ _ _ rfl tO) (Opd.topt _ _ _ rfl tO) (by intro _; exact ⟨rfl, hma⟩)) ?_
                          refine Run.pureG (dd := some 196) rfl rfl rfl tG (op_load1_fz rfl (Opd.topt _ _ _ rfl tO) rfl) ?_
                          refine Run.pureG (dd := some 197) rfl rfl rfl tG (op_move rfl (Opd.tmp _ _ rfl)) ?_
                          refine Run.pureG (dd := some 198) rfl rfl rfl tG (op_idx_fz v rfl (Opd.topt _ _ _ rfl tO) (Opd.topt _ _ _ rfl tO) (by intro _; exact ⟨rfl, hrv⟩)) ?_
                          refine Run.pureG (dd := some 199) rfl rfl rfl tG (op_load1_fz rfl (Opd.topt _ _ _ rfl tO) rfl) ?_
                          refine Run.pureG (dd := some 200) rfl rfl rfl tG (op_eql rfl (Opd.topt _ _ _ rfl tO) (Opd.topt _ _ _ rfl tO)) ?_
                          refine Run.pureG (dd := some 201) rfl rfl rfl tG (op_pick_and rfl (Opd.topt _ _ _ rfl tO) (Opd.topt _ _ _ rfl tO)) ?_
                          refine Run.pure (dd := some 202) rfl rfl (op_pick_or rfl (Opd.tmp _ _ rfl) (Opd.topt _ _ _ rfl tO)) ?_
                          refine Run.nil (FinD.mk (by kernel_rfl) ?_)
                          refine nK2 ?_
                          refine n_cond _ rfl (fun hb => ?_) (fun hb => ?_)
                          · have hp1 : pb = true := hPB.trans (by simpa [Int.natCast_inj] using hb)
                            rw [hp1, if_pos rfl, ← setI_set (l := row), List.map_append] at hK3
                            generalize rowsI (LH.set v row) = irs at *
                            refine nK2 ?_
                            refine Next.take 3 v 0 rfl (ownL_get hrg) rfl rfl ?_
                            have hs1 := set_get (ownL 1 irs) v [.sl 5 1 0 (row.map encN).length] (by rw [ownL_len, hll]; omega)
                            refine nK2 ?_
                            refine s_draw mixed ?_
                            refine Run.pure (dd := some 203) rfl rfl (op_fld_ptr (by decide) rfl (Opd.tmp _ _ rfl)) ?_
                            refine Run.load (dd := some 204) rfl rfl (op_load1_refs rfl (Opd.tmp _ _ rfl) tH rfl) ?_
                            refine Run.pure (dd := some 205) rfl rfl (op_move rfl (Opd.tmp _ _ rfl)) ?_
                            refine Run.pure (dd := some 206) rfl rfl (op_fld_ptr (by decide) rfl (Opd.tmp _ _ rfl)) ?_
                            refine Run.load (dd := some 207) rfl rfl (op_load1_refs rfl (Opd.tmp _ _ rfl) tH rfl) ?_
                            refine Run.pure (dd := some 208) rfl rfl (op_move rfl (Opd.tmp _ _ rfl)) ?_
                            refine Run.pure (dd := some 209) rfl rfl (op_idx_sl0 v rfl (Opd.tmp _ _ rfl) (Opd.tmp _ _ rfl) (by intro _; exact ⟨rfl, hlv⟩)) ?_
                            refine Run.load (dd := some 210) rfl rfl (op_load1_refs rfl (Opd.tmp _ _ rfl) (by intro _; exact ⟨rfl, hs1⟩) rfl) ?_
                            refine Run.pure (dd := some 211) rfl rfl (op_move rfl (Opd.tmp _ _ rfl)) ?_
                            refine Run.pure (dd := some 212) rfl rfl (op_buildSlice_fz rfl (RowsF.cons _ _ _ _ _ _ (Opd.tmp _ _ rfl) tC (by rfl) (RowsF.nil _)) rfl rfl) ?_
                            refine Run.effW (dd := some 213) rfl rfl (op_append rfl (Opd.tmp _ _ rfl) (by first | exact Opd.tmp _ _ rfl | exact Opd.nil _ _ (Opd.tmp _ _ rfl)) rfl (by first | rfl | simp) rfl rfl tB tB) (by first | exact ext_call | exact tE) ?_
                            refine Run.pure (dd := some 214) rfl rfl (op_idx_sl0 v rfl (Opd.tmp _ _ rfl) (Opd.tmp _ _ rfl) (by intro _; exact ⟨rfl, hlv⟩)) ?_
                            refine Run.effW (dd := none) rfl rfl (op_store_refs rfl (Opd.tmp _ _ rfl) (Opd.tmp _ _ rfl) tP rfl rfl hs1 tS) (by first | exact ext_call | exact tE) ?_
                            refine Run.nil (FinD.mk (by kernel_rfl) ?_)
                            refine nK2 ?_
                            refine s_reg rfl ?_
                            refine Run.pure (dd := some 153) rfl rfl (op_move rfl (Opd.tmp _ _ rfl)) ?_
                            refine Run.pure (dd := some 154) rfl rfl (op_add rfl (Opd.tmp _ _ rfl) (Opd.const _) tI) ?_
                            refine Run.pure (dd := some 16) rfl rfl (op_assign rfl (Opd.tmp _ _ rfl)) ?_
                            refine Run.nil (FinR.mk ?_)
                            refine nK2 ?_
                            refine Next.untake 3 v 0 rfl (set_get _ _ _ (by rw [List.length_set, ownL_len, hll]; omega)) rfl rfl (by simp) rfl ?_
                            refine Next.weak [0, 1, 2, 3, 4] [] (by rfl) (keepsN hC _ rfl) (by repeat (first | exact trivial | refine ⟨⟨_, rfl, .inl ⟨rfl, rfl⟩⟩, ?_⟩ | refine ⟨⟨_, rfl, .inl ⟨slEq rfl tN, rfl⟩⟩, ?_⟩ | refine ⟨⟨_, rfl, .inl ⟨ivEq tX, rfl⟩⟩, ?_⟩)) (by exact ⟨ent_same rfl rfl rfl tL, ⟨ent_same rfl rfl rfl tL, ⟨ent_same rfl rfl rfl tL, ⟨ent_own rfl rfl (congrArg (fun r => some (Ob.refs 1 r)) own_back), ⟨ent_own rfl rfl rfl, trivial⟩⟩⟩⟩⟩) (fun _ h => by simp at h) hK3
                          · have hp1 : ¬ pb = true := fun h => by rw [Bool.eq_false_iff] at hb; apply hb; rw [hPB] at h; simpa [Int.natCast_inj] using h
                            rw [if_neg hp1, List.append_nil] at hK3
                            refine nK2 ?_
                            refine s_reg rfl ?_
                            refine Run.pure (dd := some 153) rfl rfl (op_move rfl (Opd.tmp _ _ rfl)) ?_
                            refine Run.pure (dd := some 154) rfl rfl (op_add rfl (Opd.tmp _ _ rfl) (Opd.const _) tI) ?_
                            refine Run.pure (dd := some 16) rfl rfl (op_assign rfl (Opd.tmp _ _ rfl)) ?_
                            refine Run.nil (FinR.mk ?_)
                            refine nK2 ?_
                            refine Next.weak [0, 1, 2, 3, 4] [] (by rfl) (keepsN hC _ rfl) (by repeat (first | exact trivial | refine ⟨⟨_, rfl, .inl ⟨rfl, rfl⟩⟩, ?_⟩ | refine ⟨⟨_, rfl, .inl ⟨slEq rfl tN, rfl⟩⟩, ?_⟩ | refine ⟨⟨_, rfl, .inl ⟨ivEq tX, rfl⟩⟩, ?_⟩)) (by exact ⟨ent_same rfl rfl rfl tL, ⟨ent_same rfl rfl rfl tL, ⟨ent_same rfl rfl rfl tL, ⟨ent_own rfl rfl rfl, ⟨ent_own rfl rfl rfl, trivial⟩⟩⟩⟩⟩) (fun _ h => by simp at h) hK3
                        · have hie : i = F1.length := by simp at hb; omega
                          subst hie
                          rw [List.take_length]
                          refine nK2 ?_
                          refine s_reg rfl ?_
                          refine Run.pure (dd := some 80) rfl rfl (op_move rfl (Opd.tmp _ _ rfl)) ?_
                          refine Run.pure (dd := some 81) rfl rfl (op_add rfl (Opd.tmp _ _ rfl) (Opd.const _) tI) ?_
                          refine Run.pure (dd := some 12) rfl rfl (op_assign rfl (Opd.tmp _ _ rfl)) ?_
                          refine Run.nil (FinR.mk ?_)
                          refine nK2 ?_
                          refine Next.weak [0, 1, 2, 3, 4] [] (by rfl) (keepsN hC _ rfl) (by repeat (first | exact trivial | refine ⟨⟨_, rfl, .inl ⟨rfl, rfl⟩⟩, ?_⟩ | refine ⟨⟨_, rfl, .inl ⟨slEq rfl tN, rfl⟩⟩, ?_⟩ | refine ⟨⟨_, rfl, .inl ⟨ivEq tX, rfl⟩⟩, ?_⟩)) (by exact ⟨ent_same rfl rfl rfl tL, ⟨ent_same rfl rfl rfl tL, ⟨ent_same rfl rfl rfl tL, ⟨ent_own rfl rfl rfl, ⟨ent_own rfl rfl rfl, trivial⟩⟩⟩⟩⟩) (fun _ h => by simp at h) hK1
              · have hve : v = g.m := by have := of_decide_eq_false hb; omega
                subst hve
                rw [preL_n, preL_n]
                refine nK2 ?_
                refine Next.freezeOwn 3 rfl rfl ?_
                refine Next.freezeOwn 4 rfl rfl ?_
                have hF3 : (fzL 1 (rowsI ((List.range g.m).map (hopR g D a)))).length = g.m := by rw [fzL_len, rowsI_len]; exact rng_len _ _
                have hF4 : (fzL 1 (rowsI ((List.range g.m).map (parR g D a)))).length = g.m := by rw [fzL_len, rowsI_len]; exact rng_len _ _
                refine Next.weak [0, 1, 2] [3, 4] (by rfl) (keepsN hC _ rfl) (G' := [(2, .ptr 0 3 0 0), (4, .ptr 1 4 0 0), (9, .ptr 2 4 0 0)]) (H' := [(0, OG g), (1, OTr zeroT), (2, OTr (refT g D a))]) (by repeat (first | exact trivial | refine ⟨⟨_, rfl, .inl ⟨rfl, rfl⟩⟩, ?_⟩ | refine ⟨⟨_, rfl, .inl ⟨slEq rfl tN, rfl⟩⟩, ?_⟩ | refine ⟨⟨_, rfl, .inl ⟨ivEq tX, rfl⟩⟩, ?_⟩)) (by exact ⟨ent_same rfl rfl rfl tL, ⟨ent_same rfl rfl rfl tL, ⟨⟨rfl, rfl, .flat _ _ _ rfl (AsRs.cons _ _ _ _ (AsR.cons _ _ _ _ (.fz _) (AsR.cons _ _ _ _ (.fz _) (AsR.cons _ _ _ _ (.sl _ _ _ _ _ _ rfl rfl ((take_all0 hF3).trans (fz_rowsI _)) (by rw [← fz_rowsI]; exact hF3)) (AsR.cons _ _ _ _ (.sl _ _ _ _ _ _ rfl rfl ((take_all0 hF4).trans (fz_rowsI _)) (by rw [← fz_rowsI]; exact hF4)) .nil)))) .nil)⟩, trivial⟩⟩⟩) (fun id h => by simp at h; rcases h with rfl | rfl <;> exact ⟨_, rfl⟩) ?_
                refine nK2 ?_
                refine s_reg rfl ?_
                refine Run.load (dd := some 215) rfl rfl (op_loadw_flat rfl (Opd.tmp _ _ rfl) tH rfl) ?_
                refine Run.eff (dd := none) rfl rfl (op_store_flat rfl (Opd.tmp _ _ rfl) (Opd.tmp _ _ rfl) tC rfl rfl (by first | rfl | assumption) tS) ?_
                refine Run.pure (dd := some 5) rfl rfl (op_assign rfl (Opd.const _)) ?_
                refine Run.nil (FinR.mk ?_)
                refine nK2 ?_
                refine Next.weakS [4] [] (by rfl) (keeps0 hC _) (G' := [(4, .ptr 0 4 0 0), (5, .fz _)]) (H' := [(0, OTr (refT g D a))]) (by repeat (first | exact trivial | refine ⟨⟨_, rfl, .inl ⟨rfl, rfl⟩⟩, ?_⟩ | refine ⟨⟨_, rfl, .inl ⟨slEq rfl tN, rfl⟩⟩, ?_⟩ | refine ⟨⟨_, rfl, .inl ⟨ivEq tX, rfl⟩⟩, ?_⟩)) (by exact ⟨ent_same rfl rfl rfl tL, trivial⟩) rfl ?_
                (first | exact s_o1 hC rfl tV | exact s_o2 hC rfl tV tV | exact s_o3 hC rfl tV tV tV | exact s_out0 hC rfl | exact s_outO hC rfl rfl rfl)
end Go.Proofs.Ytgbfkpcigipniaa
/- The reference's paths are those of Path. -/
namespace Go.Pl
open Go Go.RT
set_option linter.all false
variable {g : Gr} {D : Nat → Nat → Int} {a to : Nat} {t : Tr}
end Go.Pl
namespace Go.Proofs.Ytgbfkpcigipniaa
open Go Go.RT Go.Proofs Go.Pl
set_option linter.all false
set_option maxRecDepth 20000
set_option maxHeartbeats 4000000
theorem GoodP.anc {g : Gr} {a to : Nat} {t : Tr} {nd p : List Int} (h : RunOk g a t) (hG : GoodP g a to t nd p) : ∀ (k i : Nat) (x : Int), p.length ≤ i + 1 + k → p[i]? = some x → Anc2 t.par to x
  | 0, i, x, hk, hx => by
    have h1 := (List.getElem?_eq_some_iff.1 hx).1
    have h2 := hG.last
    rw [show p.length - 1 = i by omega, hx] at h2
    cases h2; exact .here
  | k + 1, i, x, hk, hx => by
    have h1 := (List.getElem?_eq_some_iff.1 hx).1
    by_cases hl : i + 1 < p.length
    · have hy : p[i + 1]? = some p[i + 1] := List.getElem?_eq_getElem hl
      obtain ⟨v, hv, hvm, hm, _⟩ := hG.stp i x _ hx hy
      have := GoodP.anc h hG k (i + 1) _ (by omega) hy
      rw [hv] at this
      exact .up this (by rw [h.above hvm]; exact hm)
    · have h2 := hG.last
      rw [show p.length - 1 = i by omega, hx] at h2
      cases h2; exact .here
end Go.Proofs.Ytgbfkpcigipniaa
namespace Go.Pl
open Go Go.RT
set_option linter.all false
/-- the rows of distances of the routers -/
structure AllOk (g : Gr) (D : Nat → List Int) : Prop where
  len : ∀ i, i < g.r.toNat → (D i).length = g.m
  dist : ∀ i, i < g.r.toNat → ∀ v, v < g.m → IsD g.es i v (gt0 (D i) v)
end Go.Pl
namespace Go.Pl
open Go Go.RT
set_option linter.all false
structure MatOk (R : Nat) (ll : List (List Int)) : Prop where
  len : ll.length = R
  row : ∀ i, i < R → (rowAt' ll i).length = R
  diag : ∀ i, i < R → gt0 (rowAt' ll i) i = 0
  bnd : ∀ i j, i < R → j < R → -1 ≤ gt0 (rowAt' ll i) j ∧ gt0 (rowAt' ll i) j ≤ 8388480
  tri : ∀ i j k, i < R → j < R → k < R → 0 ≤ gt0 (rowAt' ll i) j → 0 ≤ gt0 (rowAt' ll j) k → 0 ≤ gt0 (rowAt' ll i) k ∧ gt0 (rowAt' ll i) k ≤ gt0 (rowAt' ll i) j + gt0 (rowAt' ll j) k
end Go.Pl
namespace Go.Proofs.Ytgbfkpcigipniaa
open Go Go.RT Go.Proofs Go.Pl
set_option linter.all false
set_option maxRecDepth 20000
set_option maxHeartbeats 4000000
end Go.Proofs.Ytgbfkpcigipniaa
namespace Go.Proofs.Ytgbfkpcigipniaa
open Go Go.RT Go.Proofs Go.Pl
set_option linter.all false
set_option maxRecDepth 20000
set_option maxHeartbeats 4000000
theorem above_c (t : Tr) (v : Int) (hl : t.par.length ≤ 1999999) : Pure Try.prog 37 [.agg (encTr t), If .i64 v] (VI (aboveL t.par v)) := by
  unfold aboveL
  refine Meets.intro Try.func37 rfl (Nat.le_of_ble_eq_true rfl) fun C hC => ?_
  simp only [List.map, argEnv, Nat.reduceAdd]
  refine nK ?_
  refine s_reg rfl ?_
  refine Run.eff (dd := some 2) rfl rfl (op_box_flat rfl (Opd.tmp _ _ rfl) tC rfl) ?_
  refine Run.pure (dd := some 4) rfl rfl (op_assign rfl (Opd.const _)) ?_
  refine Run.nil (FinR.mk ?_)
  refine nK ?_
  refine s_reg rfl ?_
  refine Run.pure (dd := some 5) rfl rfl (op_move rfl (Opd.tmp _ _ rfl)) ?_
  refine Run.pure (dd := some 6) rfl rfl (op_lss rfl (Opd.tmp _ _ rfl) (Opd.const _)) ?_
  refine Run.pure (dd := some 7) rfl rfl (op_move rfl (Opd.tmp _ _ rfl)) ?_
  refine Run.pureG (dd := some 8) rfl rfl rfl tG (op_move rfl (Opd.tmp _ _ rfl)) ?_
  refine Run.pureG (dd := some 9) rfl rfl rfl tG (op_fld_ptr (by decide) rfl (Opd.tmp _ _ rfl)) ?_
  refine Run.loadG (dd := some 10) rfl rfl rfl tG (op_load1_flat rfl (Opd.topt _ _ _ rfl tO) tH rfl) ?_
  refine Run.pureG (dd := some 11) rfl rfl rfl tG (op_len_fz rfl (by first | exact Opd.topt _ _ _ rfl tO | exact Opd.nil _ _ (Opd.topt _ _ _ rfl tO)) (by first | exact List.length_map _ | rfl)) ?_
  refine Run.pureG (dd := some 12) rfl rfl rfl tG (op_geq rfl (Opd.topt _ _ _ rfl tO) (Opd.topt _ _ _ rfl tO)) ?_
  refine Run.pure (dd := some 13) rfl rfl (op_pick_or rfl (Opd.tmp _ _ rfl) (Opd.topt _ _ _ rfl tO)) ?_
  refine Run.nil (FinR.mk ?_)
  refine nK ?_
  refine n_cond _ rfl (fun hb => ?_) (fun hb => ?_)
  · rw [if_pos (by simpa using hb)]
    refine nK ?_
    refine s_reg rfl ?_
    refine Run.pure (dd := some 4) rfl rfl (op_assign rfl (Opd.const _)) ?_
    refine Run.nil (FinR.mk ?_)
    refine nK ?_
    refine Next.weakS [] [] (by rfl) (keeps0 hC _) (G' := [(4, .fz (VI []))]) (H' := []) (by repeat (first | exact trivial | refine ⟨⟨_, rfl, .inl ⟨rfl, rfl⟩⟩, ?_⟩ | refine ⟨⟨_, rfl, .inl ⟨slEq rfl tN, rfl⟩⟩, ?_⟩ | refine ⟨⟨_, rfl, .inl ⟨ivEq tX, rfl⟩⟩, ?_⟩ | refine ⟨⟨_, rfl, .inr ⟨_, rfl, tW⟩⟩, ?_⟩)) trivial rfl ?_
    (first | exact s_o1 hC rfl tV | exact s_o2 hC rfl tV tV | exact s_o3 hC rfl tV tV tV | exact s_out0 hC rfl | exact s_outO hC rfl rfl rfl)
  · have hv : ¬ (v < 0 ∨ (t.par.length : Int) ≤ v) := by simpa using hb
    have hr := row_of encL t.par v.toNat [] (by omega)
    rw [if_neg hv]
    refine nK ?_
    refine s_reg rfl ?_
    refine Run.pure (dd := some 14) rfl rfl (op_fld_ptr (by decide) rfl (Opd.tmp _ _ rfl)) ?_
    refine Run.load (dd := some 15) rfl rfl (op_load1_flat rfl (Opd.tmp _ _ rfl) tH rfl) ?_
    refine Run.pure (dd := some 16) rfl rfl (op_move rfl (Opd.tmp _ _ rfl)) ?_
    refine Run.pure (dd := some 17) rfl rfl (op_idx_fz v.toNat rfl (Opd.tmp _ _ rfl) (Opd.tmp _ _ rfl) (by intro _; exact ⟨by omega, hr⟩)) ?_
    refine Run.pure (dd := some 18) rfl rfl (op_load1_fz rfl (Opd.tmp _ _ rfl) rfl) ?_
    refine Run.pure (dd := some 4) rfl rfl (op_assign rfl (Opd.tmp _ _ rfl)) ?_
    refine Run.nil (FinR.mk ?_)
    refine nK ?_
    (first | exact s_o1 hC rfl tV | exact s_o2 hC rfl tV tV | exact s_o3 hC rfl tV tV tV | exact s_out0 hC rfl | exact s_outO hC rfl rfl rfl)
end Go.Proofs.Ytgbfkpcigipniaa
namespace Go.Proofs.Ytgbfkpcigipniaa
open Go Go.RT Go.Proofs Go.Pl
set_option linter.all false
set_option maxRecDepth 20000
set_option maxHeartbeats 4000000
theorem i64_of {n : Nat} {x : Int} (hn : n ≤ 128) (h : 0 ≤ x ∧ x < n) : inr .i64 x := by simp only [inr]; omega
theorem prs_ok {n : Nat} {l : List Int} (hn : n ≤ 128) (h : NdL n l) : ∀ p ∈ prs l, inr .i64 p.1 := fun p hp => by
  obtain ⟨x, hx, rfl⟩ := List.mem_map.1 hp
  exact i64_of hn (h.2 x hx)
theorem path_c (t : Tr) (to : Int) (n : Nat) (hto : inr .i64 to) (hn0 : t.dist.length = n) (hn : n ≤ 128) (hup : UpOk n t.par) : Pure Try.prog 18 [.agg (encTr t), If .i64 to] (VI (pathL t to)) := by
  haveI : KEnc Try.prog 3 Int (fun n => If .i64 n) (inr .i64) := kenc_int (by kernel_rfl)
  have hpl := hup.len
  have hab := fun v => above_c t v (by omega)
  unfold pathL
  rw [hn0]
  refine Meets.intro Try.func18 rfl (Nat.le_of_ble_eq_true rfl) fun C hC => ?_
  simp only [List.map, argEnv, Nat.reduceAdd]
  refine nK ?_
  refine s_reg rfl ?_
  refine Run.eff (dd := some 2) rfl rfl (op_box_flat rfl (Opd.tmp _ _ rfl) tC rfl) ?_
  refine Run.pure (dd := some 4) rfl rfl (op_assign rfl (Opd.const _)) ?_
  refine Run.nil (FinR.mk ?_)
  refine nK ?_
  refine Next.weakS [] [2] (by rfl) (keeps0 hC _) (G' := [(1, IV .i64 to), (2, .fz (.cellp (encTr t)))]) (H' := []) (by repeat (first | exact trivial | refine ⟨⟨_, rfl, .inl ⟨rfl, rfl⟩⟩, ?_⟩ | refine ⟨⟨_, rfl, .inl ⟨slEq rfl tN, rfl⟩⟩, ?_⟩ | refine ⟨⟨_, rfl, .inl ⟨ivEq tX, rfl⟩⟩, ?_⟩ | refine ⟨⟨_, rfl, .inr ⟨_, rfl, tW⟩⟩, ?_⟩)) trivial rfl ?_
  have hrd : ¬ (to < 0 ∨ (n : Int) ≤ to) → (t.dist.map encN)[to.toNat]? = some (encN (gt0 t.dist to.toNat)) := fun h => row_of encN t.dist to.toNat 0 (by omega)
  generalize hdt : gt0 t.dist to.toNat = dt at *
  refine nK ?_
  refine s_reg rfl ?_
  refine Run.pure (dd := some 14) rfl rfl (op_move rfl (Opd.tmp _ _ rfl)) ?_
  refine Run.pure (dd := some 15) rfl rfl (op_lss rfl (Opd.tmp _ _ rfl) (Opd.const _)) ?_
  refine Run.pure (dd := some 16) rfl rfl (op_move rfl (Opd.tmp _ _ rfl)) ?_
  refine Run.pureG (dd := some 17) rfl rfl rfl tG (op_move rfl (Opd.tmp _ _ rfl)) ?_
  refine Run.pureG (dd := some 18) rfl rfl rfl tG (op_fld_fz (by decide) rfl (Opd.tmp _ _ rfl) tR) ?_
  refine Run.pureG (dd := some 19) rfl rfl rfl tG (op_load1_fz rfl (Opd.topt _ _ _ rfl tO) rfl) ?_
  refine Run.pureG (dd := some 20) rfl rfl rfl tG (op_len_fz rfl (by first | exact Opd.topt _ _ _ rfl tO | exact Opd.nil _ _ (Opd.topt _ _ _ rfl tO)) (by first | exact List.length_map _ | rfl)) ?_
  refine Run.pureG (dd := some 21) rfl rfl rfl tG (op_geq rfl (Opd.topt _ _ _ rfl tO) (Opd.topt _ _ _ rfl tO)) ?_
  refine Run.pure (dd := some 22) rfl rfl (op_pick_or rfl (Opd.tmp _ _ rfl) (Opd.topt _ _ _ rfl tO)) ?_
  refine Run.pure (dd := some 23) rfl rfl (op_move rfl (Opd.tmp _ _ rfl)) ?_
  refine Run.pureG (dd := some 24) rfl rfl rfl tG (op_fld_fz (by decide) rfl (Opd.tmp _ _ rfl) tR) ?_
  refine Run.pureG (dd := some 25) rfl rfl rfl tG (op_load1_fz rfl (Opd.topt _ _ _ rfl tO) rfl) ?_
  refine Run.pureG (dd := some 26) rfl rfl rfl tG (op_move rfl (Opd.tmp _ _ rfl)) ?_
  refine Run.pureG (dd := some 27) rfl rfl rfl tG (op_idx_fz to.toNat rfl (Opd.topt _ _ _ rfl tO) (Opd.topt _ _ _ rfl tO) (by intro hg; have hg2 : ¬ (to < 0 ∨ (n : Int) ≤ to) := (by simp [hn0] at hg; omega); exact ⟨by omega, hrd hg2⟩)) ?_
  refine Run.pureG (dd := some 28) rfl rfl rfl tG (op_load1_fz rfl (Opd.topt _ _ _ rfl tO) rfl) ?_
  refine Run.pureG (dd := some 29) rfl rfl rfl tG (op_lss rfl (Opd.topt _ _ _ rfl tO) (Opd.const _)) ?_
  refine Run.pure (dd := some 30) rfl rfl (op_pick_or rfl (Opd.tmp _ _ rfl) (Opd.topt _ _ _ rfl tO)) ?_
  refine Run.nil (FinR.mk ?_)
  refine nK ?_
  refine n_cond _ rfl (fun hb => ?_) (fun hb => ?_)
  · have hc : to < 0 ∨ (n : Int) ≤ to ∨ dt < 0 := by simp [hn0] at hb; omega
    rw [if_pos hc]
    refine nK ?_
    refine s_reg rfl ?_
    refine Run.pure (dd := some 4) rfl rfl (op_assign rfl (Opd.const _)) ?_
    refine Run.nil (FinR.mk ?_)
    refine nK ?_
    refine Next.weakS [] [] (by rfl) (keeps0 hC _) (G' := [(4, .fz (VI []))]) (H' := []) (by repeat (first | exact trivial | refine ⟨⟨_, rfl, .inl ⟨rfl, rfl⟩⟩, ?_⟩ | refine ⟨⟨_, rfl, .inl ⟨slEq rfl tN, rfl⟩⟩, ?_⟩ | refine ⟨⟨_, rfl, .inl ⟨ivEq tX, rfl⟩⟩, ?_⟩ | refine ⟨⟨_, rfl, .inr ⟨_, rfl, tW⟩⟩, ?_⟩)) trivial rfl ?_
    (first | exact s_o1 hC rfl tV | exact s_o2 hC rfl tV tV | exact s_o3 hC rfl tV tV tV | exact s_out0 hC rfl | exact s_outO hC rfl rfl rfl)
  · have hc : ¬ (to < 0 ∨ (n : Int) ≤ to ∨ dt < 0) := by simp [hn0] at hb; omega
    rw [if_neg hc]
    clear hb
    refine nK ?_
    refine s_reg rfl ?_
    refine Run.eff (dd := some 31) rfl rfl (op_makeMap rfl) ?_
    refine Run.pure (dd := some 32) rfl rfl (op_move rfl (Opd.tmp _ _ rfl)) ?_
    refine Run.eff (dd := none) rfl rfl (op_mapPut (κ := Int) (ν := Bool) (ek := fun n => If .i64 n) (ev := Bf) (l := []) (.inr rfl) (Opd.tmp _ _ rfl) (Opd.tmp _ _ rfl) (Opd.const _) rfl (by simp) (by simp) hto) ?_
    refine Run.pure (dd := some 33) rfl rfl (op_move rfl (Opd.tmp _ _ rfl)) ?_
    refine Run.pure (dd := some 5) rfl rfl (op_assign rfl (Opd.tmp _ _ rfl)) ?_
    refine Run.nil (FinR.mk ?_)
    refine nK ?_
    refine s_reg rfl ?_
    refine Run.pure (dd := some 34) rfl rfl (op_move rfl (Opd.tmp _ _ rfl)) ?_
    refine Run.eff (dd := some 35) rfl rfl (op_buildSlice_own rfl (RowsF.cons _ _ _ _ _ _ (Opd.tmp _ _ rfl) tC (by rfl) (RowsF.nil _)) rfl rfl rfl) ?_
    refine Run.pure (dd := some 6) rfl rfl (op_assign rfl (Opd.tmp _ _ rfl)) ?_
    refine Run.nil (FinR.mk ?_)
    refine nK ?_
    refine s_reg rfl ?_
    refine Run.pure (dd := some 7) rfl rfl (op_assign rfl (Opd.const _)) ?_
    refine Run.nil (FinR.mk ?_)
    refine nK ?_
    refine n_loop (ι := Nat × List Int) (fun s => ([(1, IV .i64 to), (2, .fz (.cellp (encTr t))), (5, .mp 0), (6, .sl 1 1 0 s.2.length), (7, IV .i64 s.1)], [(0, OMap (fun n => If .i64 n) Bf (prs s.2)), (1, OI s.2)], 2)) (fun s => s.1 ≤ s.2.length ∧ NdL n s.2 ∧ bfsGo (aboveL t.par) (n + 1 - s.1) s.1 s.2 = needL t.par n to) (fun s => n - s.1) (0, [to]) ⟨by simp, ⟨by simp, by simp; omega⟩, rfl⟩ ?_ ?_
    · refine Next.weak [0, 1] [] (by rfl) (keepsN hC _ rfl) (by repeat (first | exact trivial | refine ⟨⟨_, rfl, .inl ⟨rfl, rfl⟩⟩, ?_⟩ | refine ⟨⟨_, rfl, .inl ⟨slEq rfl tN, rfl⟩⟩, ?_⟩ | refine ⟨⟨_, rfl, .inl ⟨ivEq tX, rfl⟩⟩, ?_⟩)) (by exact ⟨ent_same rfl rfl rfl tL, ⟨ent_same rfl rfl rfl tL, trivial⟩⟩) (fun _ h => by simp at h) rel_intro
    · intro ⟨i, l⟩ ⟨hi, hnd, ho⟩ K hK
      try dsimp only at hi hnd ho hK ⊢
      have hll := hnd.len
      refine nK ?_
      refine s_reg rfl ?_
      refine Run.pure (dd := some 36) rfl rfl (op_move rfl (Opd.tmp _ _ rfl)) ?_
      refine Run.pure (dd := some 37) rfl rfl (op_move rfl (Opd.tmp _ _ rfl)) ?_
      refine Run.pure (dd := some 38) rfl rfl (op_len_sl rfl (Opd.tmp _ _ rfl)) ?_
      refine Run.pure (dd := some 39) rfl rfl (op_lss rfl (Opd.tmp _ _ rfl) (Opd.tmp _ _ rfl)) ?_
      refine Run.nil (FinR.mk ?_)
      refine nK ?_
      refine n_cond _ rfl (fun hb => ?_) (fun hb => ?_)
      · have hlt : i < l.length := by simp at hb; omega
        have hri := row_at' encN l i hlt
        rw [show n + 1 - i = (n - i) + 1 by omega] at ho
        simp only [bfsGo, List.getElem?_eq_getElem hlt] at ho
        have hK1 := fun l' h => hK (i + 1, l') h (by dsimp only; omega)
        dsimp only at hK1
        generalize l[i] = x at *
        obtain ⟨ha1, ha2⟩ := aboveL_ok hup x
        have hax := hab x
        generalize aboveL t.par x = row at *
        refine nK ?_
        refine s_draw mixed ?_
        refine Run.pure (dd := some 42) rfl rfl (op_loadw_fz rfl (Opd.tmp _ _ rfl) rfl) ?_
        refine Run.pure (dd := some 43) rfl rfl (op_move rfl (Opd.tmp _ _ rfl)) ?_
        refine Run.pure (dd := some 44) rfl rfl (op_move rfl (Opd.tmp _ _ rfl)) ?_
        refine Run.pure (dd := some 45) rfl rfl (op_idx_sl0 i rfl (Opd.tmp _ _ rfl) (Opd.tmp _ _ rfl) (by intro _; exact ⟨rfl, hlt⟩)) ?_
        refine Run.load (dd := some 46) rfl rfl (op_load1_flat rfl (Opd.tmp _ _ rfl) (by intro _; exact ⟨rfl, hri⟩) rfl) ?_
        refine Run.pure (dd := some 47) rfl rfl (op_call_pure (fun _ => hax) rfl (Opd.func _) (Opds.cons _ _ _ _ (Opd.tmp _ _ rfl) (Opds.cons _ _ _ _ (Opd.tmp _ _ rfl) Opds.nil))) ?_
        refine Run.pure (dd := some 48) rfl rfl (op_len_fz rfl (by first | exact Opd.tmp _ _ rfl | exact Opd.nil _ _ (Opd.tmp _ _ rfl)) (by first | exact List.length_map _ | rfl)) ?_
        refine Run.pure (dd := some 49) rfl rfl (op_move rfl (Opd.const _)) ?_
        refine Run.nil (FinD.mk (by kernel_rfl) ?_)
        refine nK ?_
        refine n_loop (ι := Nat) (fun k => ([(1, IV .i64 to), (2, .fz (.cellp (encTr t))), (5, .mp 0), (7, IV .i64 i), (6, .sl 1 1 0 ((row.take k).foldl push l).length), (47, .fz (VI row)), (48, IV .i64 row.length), (49, IV .i64 k)], [(0, OMap (fun n => If .i64 n) Bf (prs ((row.take k).foldl push l))), (1, OI ((row.take k).foldl push l))], 2)) (fun k => k ≤ row.length) (fun k => row.length - k) 0 (Nat.zero_le _) ?_ ?_
        · refine Next.weak [0, 1] [] (by rfl) (keepsN hC _ rfl) (by repeat (first | exact trivial | refine ⟨⟨_, rfl, .inl ⟨rfl, rfl⟩⟩, ?_⟩ | refine ⟨⟨_, rfl, .inl ⟨slEq rfl tN, rfl⟩⟩, ?_⟩ | refine ⟨⟨_, rfl, .inl ⟨ivEq tX, rfl⟩⟩, ?_⟩)) (by exact ⟨ent_same rfl rfl rfl tL, ⟨ent_same rfl rfl rfl tL, trivial⟩⟩) (fun _ h => by simp at h) rel_intro
        · intro k hk K2 hK2
          try dsimp only at hk hK2 ⊢
          have hnd2 : NdL n ((row.take k).foldl push l) := NdL.pushs _ hnd fun u hu => ha2 u (List.mem_of_mem_take hu)
          refine nK ?_
          refine s_reg rfl ?_
          refine Run.pure (dd := some 50) rfl rfl (op_lss rfl (Opd.tmp _ _ rfl) (Opd.tmp _ _ rfl)) ?_
          refine Run.nil (FinR.mk ?_)
          refine nK ?_
          refine n_cond _ rfl (fun hb => ?_) (fun hb => ?_)
          · have hltk : k < row.length := by simp at hb; omega
            have hrk := row_at' encN row k hltk
            have hu := ha2 _ (List.getElem_mem hltk)
            have hK3 := hK2 (k + 1) (by omega) (by omega)
            rw [foldl_take_succ _ _ _ _ hltk] at hK3
            generalize (row.take k).foldl push l = l1 at *
            generalize row[k] = u at *
            have hl1 := hnd2.len
            refine nK ?_
            refine s_reg rfl ?_
            refine Run.pure (dd := some 51) rfl rfl (op_idx_fz _ rfl (Opd.tmp _ _ rfl) (Opd.tmp _ _ rfl) tF) ?_
            refine Run.pure (dd := some 52) rfl rfl (op_load1_fz rfl (Opd.tmp _ _ rfl) rfl) ?_
            refine Run.pure (dd := some 9) rfl rfl (op_assign rfl (Opd.tmp _ _ rfl)) ?_
            refine Run.nil (FinR.mk ?_)
            refine nK ?_
            refine s_reg rfl ?_
            refine Run.pure (dd := some 53) rfl rfl (op_move rfl (Opd.tmp _ _ rfl)) ?_
            refine Run.pure (dd := some 54) rfl rfl (op_move rfl (Opd.tmp _ _ rfl)) ?_
            refine Run.load (dd := some 55) rfl rfl (op_lookup (κ := Int) (ν := Bool) (ek := fun n => If .i64 n) (ev := Bf) (l := prs l1) (k := u) false rfl (Opd.tmp _ _ rfl) (Opd.tmp _ _ rfl) rfl (by intro _; exact ⟨prs_nodup hnd2.1, prs_ok hn hnd2, i64_of hn hu⟩) (fun w S => .lit _)) ?_
            refine Run.pure (dd := some 56) rfl rfl (op_not rfl (Opd.tmp _ _ rfl)) ?_
            refine Run.nil (FinR.mk ?_)
            refine nK ?_
            refine n_cond _ rfl (fun hb => ?_) (fun hb => ?_)
            · have hm : u ∉ l1 := by rw [mget_prs] at hb; simpa using hb
              have hp : push l1 u = l1 ++ [u] := by unfold push; rw [if_neg hm]
              rw [hp] at hK3
              refine nK ?_
              refine s_reg rfl ?_
              refine Run.pure (dd := some 57) rfl rfl (op_move rfl (Opd.tmp _ _ rfl)) ?_
              refine Run.pure (dd := some 58) rfl rfl (op_move rfl (Opd.tmp _ _ rfl)) ?_
              refine Run.eff (dd := none) rfl rfl (op_mapPut (κ := Int) (ν := Bool) (ek := fun n => If .i64 n) (ev := Bf) (l := prs l1) (k := u) (v := true) (.inl rfl) (Opd.tmp _ _ rfl) (Opd.tmp _ _ rfl) (Opd.const _) rfl (prs_nodup hnd2.1) (prs_ok hn hnd2) (i64_of hn hu)) ?_
              refine Run.nil (FinR.mk ?_)
              refine nK ?_
              refine s_reg rfl ?_
              refine Run.pure (dd := some 59) rfl rfl (op_move rfl (Opd.tmp _ _ rfl)) ?_
              refine Run.pure (dd := some 60) rfl rfl (op_move rfl (Opd.tmp _ _ rfl)) ?_
              refine Run.pure (dd := some 61) rfl rfl (op_buildSlice_fz rfl (RowsF.cons _ _ _ _ _ _ (Opd.tmp _ _ rfl) tC (by rfl) (RowsF.nil _)) rfl rfl) ?_
              refine Run.eff (dd := some 62) rfl rfl (op_append rfl (Opd.tmp _ _ rfl) (by first | exact Opd.tmp _ _ rfl | exact Opd.nil _ _ (Opd.tmp _ _ rfl)) rfl (by first | rfl | simp) rfl rfl tB tB) ?_
              refine Run.pure (dd := some 6) rfl rfl (op_assign rfl (Opd.tmp _ _ rfl)) ?_
              refine Run.nil (FinR.mk ?_)
              refine nK ?_
              refine s_reg rfl ?_
              refine Run.pure (dd := some 63) rfl rfl (op_add rfl (Opd.tmp _ _ rfl) (Opd.const _) tI) ?_
              refine Run.pure (dd := some 49) rfl rfl (op_move rfl (Opd.tmp _ _ rfl)) ?_
              refine Run.nil (FinR.mk ?_)
              refine nK ?_
              refine Next.weak [0, 2] [] (by rfl) (keepsN hC _ rfl) (by repeat (first | exact trivial | refine ⟨⟨_, rfl, .inl ⟨rfl, rfl⟩⟩, ?_⟩ | refine ⟨⟨_, rfl, .inl ⟨slEq rfl tN, rfl⟩⟩, ?_⟩ | refine ⟨⟨_, rfl, .inl ⟨ivEq tX, rfl⟩⟩, ?_⟩)) (by exact ⟨ent_same rfl rfl (by rw [← mput_prs hm]; rfl) trivial, ⟨ent_same rfl rfl (flEq rfl (by rw [List.map_append]; rfl)) trivial, trivial⟩⟩) (fun _ h => by simp at h) hK3
            · have hm : u ∈ l1 := by rw [mget_prs] at hb; simpa using hb
              have hp : push l1 u = l1 := by unfold push; rw [if_pos hm]
              rw [hp] at hK3
              refine nK ?_
              refine s_reg rfl ?_
              refine Run.pure (dd := some 63) rfl rfl (op_add rfl (Opd.tmp _ _ rfl) (Opd.const _) tI) ?_
              refine Run.pure (dd := some 49) rfl rfl (op_move rfl (Opd.tmp _ _ rfl)) ?_
              refine Run.nil (FinR.mk ?_)
              refine nK ?_
              refine Next.weak [0, 1] [] (by rfl) (keepsN hC _ rfl) (by repeat (first | exact trivial | refine ⟨⟨_, rfl, .inl ⟨rfl, rfl⟩⟩, ?_⟩ | refine ⟨⟨_, rfl, .inl ⟨slEq rfl tN, rfl⟩⟩, ?_⟩ | refine ⟨⟨_, rfl, .inl ⟨ivEq tX, rfl⟩⟩, ?_⟩)) (by exact ⟨ent_same rfl rfl rfl tL, ⟨ent_same rfl rfl rfl tL, trivial⟩⟩) (fun _ h => by simp at h) hK3
          · have hke : k = row.length := by simp at hb; omega
            subst hke
            rw [List.take_length] at *
            have hle := push_le row l
            refine nK ?_
            refine s_reg rfl ?_
            refine Run.pure (dd := some 40) rfl rfl (op_move rfl (Opd.tmp _ _ rfl)) ?_
            refine Run.pure (dd := some 41) rfl rfl (op_add rfl (Opd.tmp _ _ rfl) (Opd.const _) tI) ?_
            refine Run.pure (dd := some 7) rfl rfl (op_assign rfl (Opd.tmp _ _ rfl)) ?_
            refine Run.nil (FinR.mk ?_)
            refine nK ?_
            refine Next.weak [0, 1] [] (by rfl) (keepsN hC _ rfl) (by repeat (first | exact trivial | refine ⟨⟨_, rfl, .inl ⟨rfl, rfl⟩⟩, ?_⟩ | refine ⟨⟨_, rfl, .inl ⟨slEq rfl tN, rfl⟩⟩, ?_⟩ | refine ⟨⟨_, rfl, .inl ⟨ivEq tX, rfl⟩⟩, ?_⟩)) (by exact ⟨ent_same rfl rfl rfl tL, ⟨ent_same rfl rfl rfl tL, trivial⟩⟩) (fun _ h => by simp at h) (hK1 _ ⟨by omega, hnd2, by rw [← ho]; congr 1; omega⟩)
      · have hie : i = l.length := by simp at hb; omega
        have hne : needL t.par n to = l := by
          rw [← ho]
          rcases Nat.eq_zero_or_pos (n + 1 - i) with e | e
          · rw [e]; rfl
          · rw [show n + 1 - i = (n - i) + 1 by omega]; simp only [bfsGo]; rw [List.getElem?_eq_none (by omega)]
        rw [hne]
        clear ho hne hK hb
        obtain ⟨nd, rfl⟩ : ∃ nd, nd = l := ⟨l, rfl⟩
        generalize hres : pathG t.par nd n to (n + 2) t.root [t.root] = res at *
        refine nK ?_
        refine s_reg rfl ?_
        refine Run.pure (dd := some 64) rfl rfl (op_fld_fz (by decide) rfl (Opd.tmp _ _ rfl) tR) ?_
        refine Run.pure (dd := some 65) rfl rfl (op_load1_fz rfl (Opd.tmp _ _ rfl) rfl) ?_
        refine Run.eff (dd := some 66) rfl rfl (op_buildSlice_own rfl (RowsF.cons _ _ _ _ _ _ (Opd.tmp _ _ rfl) tC (by rfl) (RowsF.nil _)) rfl rfl rfl) ?_
        refine Run.pure (dd := some 10) rfl rfl (op_assign rfl (Opd.tmp _ _ rfl)) ?_
        refine Run.nil (FinR.mk ?_)
        refine nK ?_
        refine s_reg rfl ?_
        refine Run.pure (dd := some 67) rfl rfl (op_fld_fz (by decide) rfl (Opd.tmp _ _ rfl) tR) ?_
        refine Run.pure (dd := some 68) rfl rfl (op_load1_fz rfl (Opd.tmp _ _ rfl) rfl) ?_
        refine Run.pure (dd := some 11) rfl rfl (op_assign rfl (Opd.tmp _ _ rfl)) ?_
        refine Run.nil (FinR.mk ?_)
        refine nK ?_
        refine n_loop (ι := Int × List Int) (fun s => ([(1, IV .i64 to), (2, .fz (.cellp (encTr t))), (5, .mp 0), (10, .sl 1 1 0 s.2.length), (11, IV .i64 s.1)], [(0, OMap (fun n => If .i64 n) Bf (prs nd)), (1, OI s.2)], 2)) (fun s => 1 ≤ s.2.length ∧ s.2.length ≤ n + 1 ∧ pathG t.par nd n to (n + 2 - s.2.length + 1) s.1 s.2 = res) (fun s => n + 2 - s.2.length) (t.root, [t.root]) ⟨by simp, by simp, hres⟩ ?_ ?_
        · refine Next.weak [0, 2] [] (by rfl) (keepsN hC _ rfl) (by repeat (first | exact trivial | refine ⟨⟨_, rfl, .inl ⟨rfl, rfl⟩⟩, ?_⟩ | refine ⟨⟨_, rfl, .inl ⟨slEq rfl tN, rfl⟩⟩, ?_⟩ | refine ⟨⟨_, rfl, .inl ⟨ivEq tX, rfl⟩⟩, ?_⟩)) (by exact ⟨ent_same rfl rfl rfl tL, ⟨ent_same rfl rfl rfl tL, trivial⟩⟩) (fun _ h => by simp at h) rel_intro
        · intro ⟨at_, out⟩ ⟨ho0, ho1, ho2⟩ K4 hK4
          try dsimp only at ho0 ho1 ho2 hK4 ⊢
          simp only [pathG] at ho2
          refine nK ?_
          refine s_reg rfl ?_
          refine Run.pure (dd := some 69) rfl rfl (op_move rfl (Opd.tmp _ _ rfl)) ?_
          refine Run.pure (dd := some 70) rfl rfl (op_move rfl (Opd.tmp _ _ rfl)) ?_
          refine Run.pure (dd := some 71) rfl rfl (op_neq rfl (Opd.tmp _ _ rfl) (Opd.tmp _ _ rfl)) ?_
          refine Run.nil (FinR.mk ?_)
          refine nK ?_
          refine n_cond _ rfl (fun hb => ?_) (fun hb => ?_)
          · have hne : ¬ at_ = to := by simpa using hb
            rw [if_neg hne] at ho2
            clear hb
            refine nK ?_
            refine s_reg rfl ?_
            refine Run.pure (dd := some 12) rfl rfl (op_assign rfl (Opd.const _)) ?_
            refine Run.nil (FinR.mk ?_)
            refine nK ?_
            refine s_reg rfl ?_
            refine Run.pure (dd := some 72) rfl rfl (op_fld_fz (by decide) rfl (Opd.tmp _ _ rfl) tR) ?_
            refine Run.pure (dd := some 73) rfl rfl (op_load1_fz rfl (Opd.tmp _ _ rfl) rfl) ?_
            refine Run.pure (dd := some 74) rfl rfl (op_len_fz rfl (by first | exact Opd.tmp _ _ rfl | exact Opd.nil _ _ (Opd.tmp _ _ rfl)) (by first | exact List.length_map _ | rfl)) ?_
            refine Run.pure (dd := some 75) rfl rfl (op_move rfl (Opd.const _)) ?_
            refine Run.nil (FinR.mk ?_)
            refine nK ?_
            refine n_loop (ι := Nat) (fun v => ([(1, IV .i64 to), (2, .fz (.cellp (encTr t))), (5, .mp 0), (10, .sl 1 1 0 out.length), (11, IV .i64 at_), (12, IV .i64 (-1)), (74, IV .i64 n), (75, IV .i64 v)], [(0, OMap (fun n => If .i64 n) Bf (prs nd)), (1, OI out)], 2)) (fun v => v ≤ n ∧ nextG t.par nd at_ n (n - v) v = nextG t.par nd at_ n n 0) (fun v => n - v) 0 ⟨Nat.zero_le _, rfl⟩ ?_ ?_
            · refine Next.weak [0, 1] [] (by rfl) (keepsN hC _ rfl) (by repeat (first | exact trivial | refine ⟨⟨_, rfl, .inl ⟨rfl, rfl⟩⟩, ?_⟩ | refine ⟨⟨_, rfl, .inl ⟨ivEq (by simp [hn0]), rfl⟩⟩, ?_⟩)) (by exact ⟨ent_same rfl rfl rfl tL, ⟨ent_same rfl rfl rfl tL, trivial⟩⟩) (fun _ h => by simp at h) rel_intro
            · intro v ⟨hv, hnx⟩ K5 hK5
              try dsimp only at hv hnx hK5 ⊢
              refine nK ?_
              refine s_reg rfl ?_
              refine Run.pure (dd := some 76) rfl rfl (op_lss rfl (Opd.tmp _ _ rfl) (Opd.tmp _ _ rfl)) ?_
              refine Run.nil (FinR.mk ?_)
              refine nK ?_
              refine n_cond _ rfl (fun hb => ?_) (fun hb => ?_)
              · have hltv : v < n := by simpa using hb
                rw [show n - v = (n - (v + 1)) + 1 by omega] at hnx
                simp only [nextG, if_pos hltv] at hnx
                have hav := hab v
                have hcv := containsi_c (aboveL t.par v) at_ (by have := (aboveL_ok hup v).1; omega)
                have hiv : inr .i64 (v : Int) := by simp only [inr]; omega
                refine nK ?_
                refine s_reg rfl ?_
                refine Run.pure (dd := some 77) rfl rfl (op_move rfl (Opd.tmp _ _ rfl)) ?_
                refine Run.pure (dd := some 13) rfl rfl (op_assign rfl (Opd.tmp _ _ rfl)) ?_
                refine Run.nil (FinR.mk ?_)
                refine nK ?_
                refine s_reg rfl ?_
                refine Run.pure (dd := some 78) rfl rfl (op_move rfl (Opd.tmp _ _ rfl)) ?_
                refine Run.pure (dd := some 79) rfl rfl (op_move rfl (Opd.tmp _ _ rfl)) ?_
                refine Run.load (dd := some 80) rfl rfl (op_lookup (κ := Int) (ν := Bool) (ek := fun n => If .i64 n) (ev := Bf) (l := prs nd) (k := (v : Int)) false rfl (Opd.tmp _ _ rfl) (Opd.tmp _ _ rfl) rfl (by intro _; exact ⟨prs_nodup hnd.1, prs_ok hn hnd, hiv⟩) (fun w S => .lit _)) ?_
                refine Run.pure (dd := some 81) rfl rfl (op_move rfl (Opd.tmp _ _ rfl)) ?_
                refine Run.pureG (dd := some 82) rfl rfl rfl tG (op_loadw_fz rfl (Opd.tmp _ _ rfl) rfl) ?_
                refine Run.pureG (dd := some 83) rfl rfl rfl tG (op_move rfl (Opd.tmp _ _ rfl)) ?_
                refine Run.pureG (dd := some 84) rfl rfl rfl tG (op_call_pure (fun _ => hav) rfl (Opd.func _) (Opds.cons _ _ _ _ (Opd.topt _ _ _ rfl tO) (Opds.cons _ _ _ _ (Opd.topt _ _ _ rfl tO) Opds.nil))) ?_
                refine Run.pureG (dd := some 85) rfl rfl rfl tG (op_move rfl (Opd.tmp _ _ rfl)) ?_
                refine Run.pureG (dd := some 86) rfl rfl rfl tG (op_call_pure (fun _ => hcv) rfl (Opd.func _) (Opds.cons _ _ _ _ (Opd.topt _ _ _ rfl tO) (Opds.cons _ _ _ _ (Opd.topt _ _ _ rfl tO) Opds.nil))) ?_
                refine Run.pure (dd := some 87) rfl rfl (op_pick_and rfl (Opd.tmp _ _ rfl) (Opd.topt _ _ _ rfl tO)) ?_
                refine Run.nil (FinR.mk ?_)
                refine nK ?_
                refine n_cond _ rfl (fun hb => ?_) (fun hb => ?_)
                · have hna : nextAt t.par nd at_ v = true := by rw [mget_prs] at hb; simpa [nextAt] using hb
                  rw [if_pos hna] at hnx
                  clear hK5 hb
                  rw [← hnx] at ho2
                  refine nK ?_
                  refine s_reg rfl ?_
                  refine Run.pure (dd := some 88) rfl rfl (op_move rfl (Opd.tmp _ _ rfl)) ?_
                  refine Run.pure (dd := some 12) rfl rfl (op_assign rfl (Opd.tmp _ _ rfl)) ?_
                  refine Run.nil (FinR.mk ?_)
                  refine nK ?_
                  refine Next.weak [0, 1] [] (by rfl) (keepsN hC _ rfl) (G' := [(1, IV .i64 to), (2, .fz (.cellp (encTr t))), (5, .mp 0), (10, .sl 1 1 0 out.length), (11, IV .i64 at_), (12, IV .i64 (v : Int))]) (H' := [(0, OMap (fun n => If .i64 n) Bf (prs nd)), (1, OI out)]) (by repeat (first | exact trivial | refine ⟨⟨_, rfl, .inl ⟨rfl, rfl⟩⟩, ?_⟩ | refine ⟨⟨_, rfl, .inl ⟨slEq rfl tN, rfl⟩⟩, ?_⟩ | refine ⟨⟨_, rfl, .inl ⟨ivEq tX, rfl⟩⟩, ?_⟩)) (by exact ⟨ent_same rfl rfl rfl tL, ⟨ent_same rfl rfl rfl tL, trivial⟩⟩) (fun _ h => by simp at h) ?_
                  refine nK ?_
                  refine s_reg rfl ?_
                  refine Run.pure (dd := some 90) rfl rfl (op_move rfl (Opd.tmp _ _ rfl)) ?_
                  refine Run.pure (dd := some 91) rfl rfl (op_lss rfl (Opd.tmp _ _ rfl) (Opd.const _)) ?_
                  refine Run.pure (dd := some 92) rfl rfl (op_move rfl (Opd.tmp _ _ rfl)) ?_
                  refine Run.pureG (dd := some 93) rfl rfl rfl tG (op_move rfl (Opd.tmp _ _ rfl)) ?_
                  refine Run.pureG (dd := some 94) rfl rfl rfl tG (op_len_sl rfl (Opd.topt _ _ _ rfl tO)) ?_
                  refine Run.pureG (dd := some 95) rfl rfl rfl tG (op_fld_fz (by decide) rfl (Opd.tmp _ _ rfl) tR) ?_
                  refine Run.pureG (dd := some 96) rfl rfl rfl tG (op_load1_fz rfl (Opd.topt _ _ _ rfl tO) rfl) ?_
                  refine Run.pureG (dd := some 97) rfl rfl rfl tG (op_len_fz rfl (by first | exact Opd.topt _ _ _ rfl tO | exact Opd.nil _ _ (Opd.topt _ _ _ rfl tO)) (by first | exact List.length_map _ | rfl)) ?_
                  refine Run.pureG (dd := some 98) rfl rfl rfl tG (op_gtr rfl (Opd.topt _ _ _ rfl tO) (Opd.topt _ _ _ rfl tO)) ?_
                  refine Run.pure (dd := some 99) rfl rfl (op_pick_or rfl (Opd.tmp _ _ rfl) (Opd.topt _ _ _ rfl tO)) ?_
                  refine Run.nil (FinR.mk ?_)
                  refine nK ?_
                  refine n_cond _ rfl (fun hb => ?_) (fun hb => ?_)
                  · have hc : (v : Int) < 0 ∨ (n : Int) < (out.length : Int) := by simpa [hn0] using hb
                    rw [if_pos hc] at ho2
                    rw [← ho2]
                    refine nK ?_
                    refine s_reg rfl ?_
                    refine Run.pure (dd := some 4) rfl rfl (op_assign rfl (Opd.const _)) ?_
                    refine Run.nil (FinR.mk ?_)
                    refine nK ?_
                    refine Next.weakS [] [] (by rfl) (keeps0 hC _) (G' := [(4, .fz (VI []))]) (H' := []) (by repeat (first | exact trivial | refine ⟨⟨_, rfl, .inl ⟨rfl, rfl⟩⟩, ?_⟩ | refine ⟨⟨_, rfl, .inl ⟨slEq rfl tN, rfl⟩⟩, ?_⟩ | refine ⟨⟨_, rfl, .inl ⟨ivEq tX, rfl⟩⟩, ?_⟩ | refine ⟨⟨_, rfl, .inr ⟨_, rfl, tW⟩⟩, ?_⟩)) trivial rfl ?_
                    (first | exact s_o1 hC rfl tV | exact s_o2 hC rfl tV tV | exact s_o3 hC rfl tV tV tV | exact s_out0 hC rfl | exact s_outO hC rfl rfl rfl)
                  · have hc : ¬ ((v : Int) < 0 ∨ (n : Int) < (out.length : Int)) := by simpa [hn0] using hb
                    rw [if_neg hc] at ho2
                    refine nK ?_
                    refine s_reg rfl ?_
                    refine Run.pure (dd := some 100) rfl rfl (op_move rfl (Opd.tmp _ _ rfl)) ?_
                    refine Run.pure (dd := some 101) rfl rfl (op_move rfl (Opd.tmp _ _ rfl)) ?_
                    refine Run.pure (dd := some 102) rfl rfl (op_buildSlice_fz rfl (RowsF.cons _ _ _ _ _ _ (Opd.tmp _ _ rfl) tC (by rfl) (RowsF.nil _)) rfl rfl) ?_
                    refine Run.eff (dd := some 103) rfl rfl (op_append rfl (Opd.tmp _ _ rfl) (by first | exact Opd.tmp _ _ rfl | exact Opd.nil _ _ (Opd.tmp _ _ rfl)) rfl (by first | rfl | simp) rfl rfl tB tB) ?_
                    refine Run.pure (dd := some 104) rfl rfl (op_move rfl (Opd.tmp _ _ rfl)) ?_
                    refine Run.pure (dd := some 10) rfl rfl (op_assign rfl (Opd.tmp _ _ rfl)) ?_
                    refine Run.pure (dd := some 11) rfl rfl (op_assign rfl (Opd.tmp _ _ rfl)) ?_
                    refine Run.nil (FinR.mk ?_)
                    refine nK ?_
                    refine Next.weak [0, 2] [] (by rfl) (keepsN hC _ rfl) (by repeat (first | exact trivial | refine ⟨⟨_, rfl, .inl ⟨rfl, rfl⟩⟩, ?_⟩ | refine ⟨⟨_, rfl, .inl ⟨slEq rfl tN, rfl⟩⟩, ?_⟩ | refine ⟨⟨_, rfl, .inl ⟨ivEq tX, rfl⟩⟩, ?_⟩)) (by exact ⟨ent_same rfl rfl rfl tL, ⟨ent_same rfl rfl (flEq rfl (by rw [List.map_append]; rfl)) trivial, trivial⟩⟩) (fun _ h => by simp at h) (hK4 ((v : Int), out ++ [(v : Int)]) ⟨by simp, by simp; omega, by dsimp only; rw [← ho2]; congr 1; simp; omega⟩ (by simp; omega))
                · have hna : ¬ nextAt t.par nd at_ v = true := by rw [mget_prs] at hb; simpa [nextAt] using hb
                  rw [if_neg hna] at hnx
                  refine nK ?_
                  refine s_reg rfl ?_
                  refine Run.pure (dd := some 89) rfl rfl (op_add rfl (Opd.tmp _ _ rfl) (Opd.const _) tI) ?_
                  refine Run.pure (dd := some 75) rfl rfl (op_move rfl (Opd.tmp _ _ rfl)) ?_
                  refine Run.nil (FinR.mk ?_)
                  refine nK ?_
                  refine Next.weak [0, 1] [] (by rfl) (keepsN hC _ rfl) (by repeat (first | exact trivial | refine ⟨⟨_, rfl, .inl ⟨rfl, rfl⟩⟩, ?_⟩ | refine ⟨⟨_, rfl, .inl ⟨slEq rfl tN, rfl⟩⟩, ?_⟩ | refine ⟨⟨_, rfl, .inl ⟨ivEq tX, rfl⟩⟩, ?_⟩)) (by exact ⟨ent_same rfl rfl rfl tL, ⟨ent_same rfl rfl rfl tL, trivial⟩⟩) (fun _ h => by simp at h) (hK5 (v + 1) ⟨hltv, hnx⟩ (by omega))
              · have hve : v = n := by simp at hb; omega
                rw [hve, Nat.sub_self] at hnx
                simp only [nextG] at hnx
                clear hK5 hb
                rw [← hnx] at ho2
                refine nK ?_
                refine Next.weak [0, 1] [] (by rfl) (keepsN hC _ rfl) (G' := [(1, IV .i64 to), (2, .fz (.cellp (encTr t))), (5, .mp 0), (10, .sl 1 1 0 out.length), (11, IV .i64 at_), (12, IV .i64 (-1))]) (H' := [(0, OMap (fun n => If .i64 n) Bf (prs nd)), (1, OI out)]) (by repeat (first | exact trivial | refine ⟨⟨_, rfl, .inl ⟨rfl, rfl⟩⟩, ?_⟩ | refine ⟨⟨_, rfl, .inl ⟨slEq rfl tN, rfl⟩⟩, ?_⟩ | refine ⟨⟨_, rfl, .inl ⟨ivEq tX, rfl⟩⟩, ?_⟩)) (by exact ⟨ent_same rfl rfl rfl tL, ⟨ent_same rfl rfl rfl tL, trivial⟩⟩) (fun _ h => by simp at h) ?_
                refine nK ?_
                refine s_reg rfl ?_
                refine Run.pure (dd := some 90) rfl rfl (op_move rfl (Opd.tmp _ _ rfl)) ?_
                refine Run.pure (dd := some 91) rfl rfl (op_lss rfl (Opd.tmp _ _ rfl) (Opd.const _)) ?_
                refine Run.pure (dd := some 92) rfl rfl (op_move rfl (Opd.tmp _ _ rfl)) ?_
                refine Run.pureG (dd := some 93) rfl rfl rfl tG (op_move rfl (Opd.tmp _ _ rfl)) ?_
                refine Run.pureG (dd := some 94) rfl rfl rfl tG (op_len_sl rfl (Opd.topt _ _ _ rfl tO)) ?_
                refine Run.pureG (dd := some 95) rfl rfl rfl tG (op_fld_fz (by decide) rfl (Opd.tmp _ _ rfl) tR) ?_
                refine Run.pureG (dd := some 96) rfl rfl rfl tG (op_load1_fz rfl (Opd.topt _ _ _ rfl tO) rfl) ?_
                refine Run.pureG (dd := some 97) rfl rfl rfl tG (op_len_fz rfl (by first | exact Opd.topt _ _ _ rfl tO | exact Opd.nil _ _ (Opd.topt _ _ _ rfl tO)) (by first | exact List.length_map _ | rfl)) ?_
                refine Run.pureG (dd := some 98) rfl rfl rfl tG (op_gtr rfl (Opd.topt _ _ _ rfl tO) (Opd.topt _ _ _ rfl tO)) ?_
                refine Run.pure (dd := some 99) rfl rfl (op_pick_or rfl (Opd.tmp _ _ rfl) (Opd.topt _ _ _ rfl tO)) ?_
                refine Run.nil (FinR.mk ?_)
                refine nK ?_
                refine n_cond _ rfl (fun hb => ?_) (fun hb => ?_)
                · have hc : (-1 : Int) < 0 ∨ (n : Int) < (out.length : Int) := by simpa [hn0] using hb
                  rw [if_pos hc] at ho2
                  rw [← ho2]
                  refine nK ?_
                  refine s_reg rfl ?_
                  refine Run.pure (dd := some 4) rfl rfl (op_assign rfl (Opd.const _)) ?_
                  refine Run.nil (FinR.mk ?_)
                  refine nK ?_
                  refine Next.weakS [] [] (by rfl) (keeps0 hC _) (G' := [(4, .fz (VI []))]) (H' := []) (by repeat (first | exact trivial | refine ⟨⟨_, rfl, .inl ⟨rfl, rfl⟩⟩, ?_⟩ | refine ⟨⟨_, rfl, .inl ⟨slEq rfl tN, rfl⟩⟩, ?_⟩ | refine ⟨⟨_, rfl, .inl ⟨ivEq tX, rfl⟩⟩, ?_⟩ | refine ⟨⟨_, rfl, .inr ⟨_, rfl, tW⟩⟩, ?_⟩)) trivial rfl ?_
                  (first | exact s_o1 hC rfl tV | exact s_o2 hC rfl tV tV | exact s_o3 hC rfl tV tV tV | exact s_out0 hC rfl | exact s_outO hC rfl rfl rfl)
                · have hc : ¬ ((-1 : Int) < 0 ∨ (n : Int) < (out.length : Int)) := by simpa [hn0] using hb
                  rw [if_neg hc] at ho2
                  refine nK ?_
                  refine s_reg rfl ?_
                  refine Run.pure (dd := some 100) rfl rfl (op_move rfl (Opd.tmp _ _ rfl)) ?_
                  refine Run.pure (dd := some 101) rfl rfl (op_move rfl (Opd.tmp _ _ rfl)) ?_
                  refine Run.pure (dd := some 102) rfl rfl (op_buildSlice_fz rfl (RowsF.cons _ _ _ _ _ _ (Opd.tmp _ _ rfl) tC (by rfl) (RowsF.nil _)) rfl rfl) ?_
                  refine Run.eff (dd := some 103) rfl rfl (op_append rfl (Opd.tmp _ _ rfl) (by first | exact Opd.tmp _ _ rfl | exact Opd.nil _ _ (Opd.tmp _ _ rfl)) rfl (by first | rfl | simp) rfl rfl tB tB) ?_
                  refine Run.pure (dd := some 104) rfl rfl (op_move rfl (Opd.tmp _ _ rfl)) ?_
                  refine Run.pure (dd := some 10) rfl rfl (op_assign rfl (Opd.tmp _ _ rfl)) ?_
                  refine Run.pure (dd := some 11) rfl rfl (op_assign rfl (Opd.tmp _ _ rfl)) ?_
                  refine Run.nil (FinR.mk ?_)
                  refine nK ?_
                  refine Next.weak [0, 2] [] (by rfl) (keepsN hC _ rfl) (by repeat (first | exact trivial | refine ⟨⟨_, rfl, .inl ⟨rfl, rfl⟩⟩, ?_⟩ | refine ⟨⟨_, rfl, .inl ⟨slEq rfl tN, rfl⟩⟩, ?_⟩ | refine ⟨⟨_, rfl, .inl ⟨ivEq tX, rfl⟩⟩, ?_⟩)) (by exact ⟨ent_same rfl rfl rfl tL, ⟨ent_same rfl rfl (flEq rfl (by rw [List.map_append]; rfl)) trivial, trivial⟩⟩) (fun _ h => by simp at h) (hK4 ((-1 : Int), out ++ [(-1 : Int)]) ⟨by simp, by simp; omega, by dsimp only; rw [← ho2]; congr 1; simp; omega⟩ (by simp; omega))
          · have hte : at_ = to := by simpa using hb
            rw [if_pos hte] at ho2
            rw [← ho2]
            refine nK ?_
            refine s_reg rfl ?_
            refine Run.pure (dd := some 105) rfl rfl (op_move rfl (Opd.tmp _ _ rfl)) ?_
            refine Run.pure (dd := some 4) rfl rfl (op_assign rfl (Opd.tmp _ _ rfl)) ?_
            refine Run.nil (FinR.mk ?_)
            refine nK ?_
            refine Next.weakS [] [4] (by rfl) (keeps0 hC _) (G' := [(4, .fz (VI out))]) (H' := []) ⟨⟨_, rfl, .inr ⟨_, rfl, .sl _ _ _ _ _ _ rfl rfl (take_all0 (by rw [List.length_map])) (by rw [List.length_map])⟩⟩, trivial⟩ trivial rfl ?_
            (first | exact s_o1 hC rfl tV | exact s_o2 hC rfl tV tV | exact s_o3 hC rfl tV tV tV | exact s_out0 hC rfl | exact s_outO hC rfl rfl rfl)
end Go.Proofs.Ytgbfkpcigipniaa
namespace Go.Proofs.Ytgbfkpcigipniaa
open Go Go.RT Go.Proofs Go.Pl
set_option linter.all false
set_option maxRecDepth 20000
set_option maxHeartbeats 4000000
theorem ring_c : Pure Try.prog 33 [] (.agg (encG gr1)) := by
  refine Meets.intro Try.func33 rfl (Nat.le_of_ble_eq_true rfl) fun C hC => ?_
  simp only [List.map, argEnv, Nat.reduceAdd]
  refine nK ?_
  refine s_reg rfl ?_
  refine Run.eff (dd := some 0) rfl rfl (op_alloc rfl rfl rfl rfl) ?_
  refine Run.nil (FinR.mk ?_)
  refine nK ?_
  refine s_reg rfl ?_
  refine Run.pure (dd := some 1) rfl rfl (op_build rfl rfl rfl (FillF.cons _ _ _ _ _ _ _ _ _ _ (by rfl) (Opd.const _) tC (by rfl) tR (FillF.cons _ _ _ _ _ _ _ _ _ _ (by rfl) (Opd.const _) tC (by rfl) tR (FillF.cons _ _ _ _ _ _ _ _ _ _ (by rfl) (Opd.const _) tC (by rfl) tR (FillF.nil _))))) ?_
  refine Run.pure (dd := some 2) rfl rfl (op_build rfl rfl rfl (FillF.cons _ _ _ _ _ _ _ _ _ _ (by rfl) (Opd.const _) tC (by rfl) tR (FillF.cons _ _ _ _ _ _ _ _ _ _ (by rfl) (Opd.const _) tC (by rfl) tR (FillF.cons _ _ _ _ _ _ _ _ _ _ (by rfl) (Opd.const _) tC (by rfl) tR (FillF.nil _))))) ?_
  refine Run.pure (dd := some 3) rfl rfl (op_build rfl rfl rfl (FillF.cons _ _ _ _ _ _ _ _ _ _ (by rfl) (Opd.const _) tC (by rfl) tR (FillF.cons _ _ _ _ _ _ _ _ _ _ (by rfl) (Opd.const _) tC (by rfl) tR (FillF.cons _ _ _ _ _ _ _ _ _ _ (by rfl) (Opd.const _) tC (by rfl) tR (FillF.nil _))))) ?_
  refine Run.pure (dd := some 4) rfl rfl (op_build rfl rfl rfl (FillF.cons _ _ _ _ _ _ _ _ _ _ (by rfl) (Opd.const _) tC (by rfl) tR (FillF.cons _ _ _ _ _ _ _ _ _ _ (by rfl) (Opd.const _) tC (by rfl) tR (FillF.cons _ _ _ _ _ _ _ _ _ _ (by rfl) (Opd.const _) tC (by rfl) tR (FillF.nil _))))) ?_
  refine Run.pure (dd := some 5) rfl rfl (op_build rfl rfl rfl (FillF.cons _ _ _ _ _ _ _ _ _ _ (by rfl) (Opd.const _) tC (by rfl) tR (FillF.cons _ _ _ _ _ _ _ _ _ _ (by rfl) (Opd.const _) tC (by rfl) tR (FillF.cons _ _ _ _ _ _ _ _ _ _ (by rfl) (Opd.const _) tC (by rfl) tR (FillF.nil _))))) ?_
  refine Run.pure (dd := some 6) rfl rfl (op_build rfl rfl rfl (FillF.cons _ _ _ _ _ _ _ _ _ _ (by rfl) (Opd.const _) tC (by rfl) tR (FillF.cons _ _ _ _ _ _ _ _ _ _ (by rfl) (Opd.const _) tC (by rfl) tR (FillF.cons _ _ _ _ _ _ _ _ _ _ (by rfl) (Opd.const _) tC (by rfl) tR (FillF.nil _))))) ?_
  refine Run.pure (dd := some 7) rfl rfl (op_build rfl rfl rfl (FillF.cons _ _ _ _ _ _ _ _ _ _ (by rfl) (Opd.const _) tC (by rfl) tR (FillF.cons _ _ _ _ _ _ _ _ _ _ (by rfl) (Opd.const _) tC (by rfl) tR (FillF.cons _ _ _ _ _ _ _ _ _ _ (by rfl) (Opd.const _) tC (by rfl) tR (FillF.nil _))))) ?_
  refine Run.pure (dd := some 8) rfl rfl (op_build rfl rfl rfl (FillF.cons _ _ _ _ _ _ _ _ _ _ (by rfl) (Opd.const _) tC (by rfl) tR (FillF.cons _ _ _ _ _ _ _ _ _ _ (by rfl) (Opd.const _) tC (by rfl) tR (FillF.cons _ _ _ _ _ _ _ _ _ _ (by rfl) (Opd.const _) tC (by rfl) tR (FillF.nil _))))) ?_
  refine Run.pure (dd := some 9) rfl rfl (op_buildSlice_fz rfl (RowsF.cons _ _ _ _ _ _ (Opd.tmp _ _ rfl) tC (by rfl) (RowsF.cons _ _ _ _ _ _ (Opd.tmp _ _ rfl) tC (by rfl) (RowsF.cons _ _ _ _ _ _ (Opd.tmp _ _ rfl) tC (by rfl) (RowsF.cons _ _ _ _ _ _ (Opd.tmp _ _ rfl) tC (by rfl) (RowsF.cons _ _ _ _ _ _ (Opd.tmp _ _ rfl) tC (by rfl) (RowsF.cons _ _ _ _ _ _ (Opd.tmp _ _ rfl) tC (by rfl) (RowsF.cons _ _ _ _ _ _ (Opd.tmp _ _ rfl) tC (by rfl) (RowsF.cons _ _ _ _ _ _ (Opd.tmp _ _ rfl) tC (by rfl) (RowsF.nil _))))))))) rfl rfl) ?_
  refine Run.pure (dd := some 10) rfl rfl (op_build rfl rfl rfl (FillF.cons _ _ _ _ _ _ _ _ _ _ (by rfl) (Opd.const _) tC (by rfl) tR (FillF.cons _ _ _ _ _ _ _ _ _ _ (by rfl) (Opd.tmp _ _ rfl) tC (by rfl) tR (FillF.nil _)))) ?_
  refine Run.eff (dd := none) rfl rfl (op_store_flat rfl (Opd.tmp _ _ rfl) (Opd.tmp _ _ rfl) tC rfl rfl (by first | rfl | assumption) tS) ?_
  refine Run.nil (FinR.mk ?_)
  refine nK ?_
  (first | exact s_o1 hC rfl tV | exact s_o2 hC rfl tV tV | exact s_o3 hC rfl tV tV tV | exact s_out0 hC rfl | exact s_outO hC rfl rfl rfl)
theorem lives_c : Pure Try.prog 15 [] (Bf true) := by
  have k1 := run_c gr1 0 tr1 gr1_ok run1
  have k2 := run_c gr2 0 tr2 gr2_ok run2
  have k3 := path_c tr1 2 4 (by decide) rfl (by decide) (by have := parL_ok (checkI_vg run1.ok).1 0 tr1.dist; rw [run1.par]; exact this)
  rw [path1] at k3
  have s := fun a b ha hb => sameints_c a b ha hb
  refine Meets.intro Try.func15 rfl (Nat.le_of_ble_eq_true rfl) fun C hC => ?_
  simp only [List.map, argEnv, Nat.reduceAdd]
  refine nK ?_
  refine s_reg rfl ?_
  refine Run.pure (dd := some 0) rfl rfl (op_assign rfl (Opd.const _)) ?_
  refine Run.nil (FinR.mk ?_)
  refine nK ?_
  refine s_reg rfl ?_
  refine Run.pure (dd := some 6) rfl rfl (op_call_pure (fun _ => ring_c) rfl (Opd.func _) Opds.nil) ?_
  refine Run.pure (dd := some 7) rfl rfl (op_call_pure (fun _ => k1) rfl (Opd.func _) (Opds.cons _ _ _ _ (Opd.tmp _ _ rfl) (Opds.cons _ _ _ _ (Opd.const _) Opds.nil))) ?_
  refine Run.pure (dd := some 5) rfl rfl (op_move rfl (Opd.tmp _ _ rfl)) ?_
  refine Run.pure (dd := some 8) rfl rfl (op_extract_fz rfl (Opd.tmp _ _ rfl) rfl) ?_
  refine Run.pure (dd := some 9) rfl rfl (op_extract_fz rfl (Opd.tmp _ _ rfl) rfl) ?_
  refine Run.eff (dd := some 1) rfl rfl (op_alloc rfl rfl rfl rfl) ?_
  refine Run.eff (dd := none) rfl rfl (op_store_flat rfl (Opd.tmp _ _ rfl) (Opd.tmp _ _ rfl) tC rfl rfl (by first | rfl | assumption) tS) ?_
  refine Run.pure (dd := some 2) rfl rfl (op_assign rfl (Opd.tmp _ _ rfl)) ?_
  refine Run.nil (FinR.mk ?_)
  refine nK ?_
  refine s_reg rfl ?_
  refine Run.pure (dd := some 11) rfl rfl (op_build rfl rfl rfl (FillF.cons _ _ _ _ _ _ _ _ _ _ (by rfl) (Opd.const _) tC (by rfl) tR (FillF.cons _ _ _ _ _ _ _ _ _ _ (by rfl) (Opd.const _) tC (by rfl) tR (FillF.cons _ _ _ _ _ _ _ _ _ _ (by rfl) (Opd.const _) tC (by rfl) tR (FillF.nil _))))) ?_
  refine Run.pure (dd := some 12) rfl rfl (op_build rfl rfl rfl (FillF.cons _ _ _ _ _ _ _ _ _ _ (by rfl) (Opd.const _) tC (by rfl) tR (FillF.cons _ _ _ _ _ _ _ _ _ _ (by rfl) (Opd.const _) tC (by rfl) tR (FillF.cons _ _ _ _ _ _ _ _ _ _ (by rfl) (Opd.const _) tC (by rfl) tR (FillF.nil _))))) ?_
  refine Run.pure (dd := some 13) rfl rfl (op_build rfl rfl rfl (FillF.cons _ _ _ _ _ _ _ _ _ _ (by rfl) (Opd.const _) tC (by rfl) tR (FillF.cons _ _ _ _ _ _ _ _ _ _ (by rfl) (Opd.const _) tC (by rfl) tR (FillF.nil _)))) ?_
  refine Run.pure (dd := some 14) rfl rfl (op_build rfl rfl rfl (FillF.cons _ _ _ _ _ _ _ _ _ _ (by rfl) (Opd.const _) tC (by rfl) tR (FillF.cons _ _ _ _ _ _ _ _ _ _ (by rfl) (Opd.const _) tC (by rfl) tR (FillF.nil _)))) ?_
  refine Run.pure (dd := some 15) rfl rfl (op_buildSlice_fz rfl (RowsF.cons _ _ _ _ _ _ (Opd.tmp _ _ rfl) tC (by rfl) (RowsF.cons _ _ _ _ _ _ (Opd.tmp _ _ rfl) tC (by rfl) (RowsF.cons _ _ _ _ _ _ (Opd.tmp _ _ rfl) tC (by rfl) (RowsF.cons _ _ _ _ _ _ (Opd.tmp _ _ rfl) tC (by rfl) (RowsF.nil _))))) rfl rfl) ?_
  refine Run.pure (dd := some 16) rfl rfl (op_build rfl rfl rfl (FillF.cons _ _ _ _ _ _ _ _ _ _ (by rfl) (Opd.const _) tC (by rfl) tR (FillF.cons _ _ _ _ _ _ _ _ _ _ (by rfl) (Opd.const _) tC (by rfl) tR (FillF.cons _ _ _ _ _ _ _ _ _ _ (by rfl) (Opd.tmp _ _ rfl) tC (by rfl) tR (FillF.nil _))))) ?_
  refine Run.pure (dd := some 17) rfl rfl (op_call_pure (fun _ => k2) rfl (Opd.func _) (Opds.cons _ _ _ _ (Opd.tmp _ _ rfl) (Opds.cons _ _ _ _ (Opd.const _) Opds.nil))) ?_
  refine Run.pure (dd := some 10) rfl rfl (op_move rfl (Opd.tmp _ _ rfl)) ?_
  refine Run.pure (dd := some 18) rfl rfl (op_extract_fz rfl (Opd.tmp _ _ rfl) rfl) ?_
  refine Run.pure (dd := some 19) rfl rfl (op_extract_fz rfl (Opd.tmp _ _ rfl) rfl) ?_
  refine Run.eff (dd := some 3) rfl rfl (op_alloc rfl rfl rfl rfl) ?_
  refine Run.eff (dd := none) rfl rfl (op_store_flat rfl (Opd.tmp _ _ rfl) (Opd.tmp _ _ rfl) tC rfl rfl (by first | rfl | assumption) tS) ?_
  refine Run.pure (dd := some 4) rfl rfl (op_assign rfl (Opd.tmp _ _ rfl)) ?_
  refine Run.nil (FinR.mk ?_)
  refine nK ?_
  refine s_reg rfl ?_
  refine Run.pure (dd := some 20) rfl rfl (op_move rfl (Opd.tmp _ _ rfl)) ?_
  refine Run.pure (dd := some 21) rfl rfl (op_neq rfl (Opd.tmp _ _ rfl) (Opd.const _)) ?_
  refine Run.pure (dd := some 22) rfl rfl (op_move rfl (Opd.tmp _ _ rfl)) ?_
  refine Run.pureG (dd := some 23) rfl rfl rfl tG (op_move rfl (Opd.tmp _ _ rfl)) ?_
  refine Run.pureG (dd := some 24) rfl rfl rfl tG (op_neq rfl (Opd.topt _ _ _ rfl tO) (Opd.const _)) ?_
  refine Run.pure (dd := some 25) rfl rfl (op_pick_or rfl (Opd.tmp _ _ rfl) (Opd.topt _ _ _ rfl tO)) ?_
  refine Run.pure (dd := some 26) rfl rfl (op_move rfl (Opd.tmp _ _ rfl)) ?_
  refine Run.pureG (dd := some 27) rfl rfl rfl tG (op_fld_ptr (by decide) rfl (Opd.tmp _ _ rfl)) ?_
  refine Run.loadG (dd := some 28) rfl rfl rfl tG (op_load1_flat rfl (Opd.topt _ _ _ rfl tO) tH rfl) ?_
  refine Run.pureG (dd := some 29) rfl rfl rfl tG (op_len_fz rfl (by first | exact Opd.topt _ _ _ rfl tO | exact Opd.nil _ _ (Opd.topt _ _ _ rfl tO)) (by first | exact List.length_map _ | rfl)) ?_
  refine Run.pureG (dd := some 30) rfl rfl rfl tG (op_neq rfl (Opd.topt _ _ _ rfl tO) (Opd.const _)) ?_
  refine Run.pure (dd := some 31) rfl rfl (op_pick_or rfl (Opd.tmp _ _ rfl) (Opd.topt _ _ _ rfl tO)) ?_
  refine Run.pure (dd := some 32) rfl rfl (op_move rfl (Opd.tmp _ _ rfl)) ?_
  refine Run.pureG (dd := some 33) rfl rfl rfl tG (op_fld_ptr (by decide) rfl (Opd.tmp _ _ rfl)) ?_
  refine Run.loadG (dd := some 34) rfl rfl rfl tG (op_load1_flat rfl (Opd.topt _ _ _ rfl tO) tH rfl) ?_
  refine Run.pureG (dd := some 35) rfl rfl rfl tG (op_len_fz rfl (by first | exact Opd.topt _ _ _ rfl tO | exact Opd.nil _ _ (Opd.topt _ _ _ rfl tO)) (by first | exact List.length_map _ | rfl)) ?_
  refine Run.pureG (dd := some 36) rfl rfl rfl tG (op_neq rfl (Opd.topt _ _ _ rfl tO) (Opd.const _)) ?_
  refine Run.pure (dd := some 37) rfl rfl (op_pick_or rfl (Opd.tmp _ _ rfl) (Opd.topt _ _ _ rfl tO)) ?_
  refine Run.pure (dd := some 38) rfl rfl (op_move rfl (Opd.tmp _ _ rfl)) ?_
  refine Run.pureG (dd := some 39) rfl rfl rfl tG (op_fld_ptr (by decide) rfl (Opd.tmp _ _ rfl)) ?_
  refine Run.loadG (dd := some 40) rfl rfl rfl tG (op_load1_flat rfl (Opd.topt _ _ _ rfl tO) tH rfl) ?_
  refine Run.pureG (dd := some 41) rfl rfl rfl tG (op_len_fz rfl (by first | exact Opd.topt _ _ _ rfl tO | exact Opd.nil _ _ (Opd.topt _ _ _ rfl tO)) (by first | exact List.length_map _ | rfl)) ?_
  refine Run.pureG (dd := some 42) rfl rfl rfl tG (op_neq rfl (Opd.topt _ _ _ rfl tO) (Opd.const _)) ?_
  refine Run.pure (dd := some 43) rfl rfl (op_pick_or rfl (Opd.tmp _ _ rfl) (Opd.topt _ _ _ rfl tO)) ?_
  refine Run.pure (dd := some 44) rfl rfl (op_move rfl (Opd.tmp _ _ rfl)) ?_
  refine Run.pureG (dd := some 45) rfl rfl rfl tG (op_fld_ptr (by decide) rfl (Opd.tmp _ _ rfl)) ?_
  refine Run.loadG (dd := some 46) rfl rfl rfl tG (op_load1_flat rfl (Opd.topt _ _ _ rfl tO) tH rfl) ?_
  refine Run.pureG (dd := some 47) rfl rfl rfl tG (op_len_fz rfl (by first | exact Opd.topt _ _ _ rfl tO | exact Opd.nil _ _ (Opd.topt _ _ _ rfl tO)) (by first | exact List.length_map _ | rfl)) ?_
  refine Run.pureG (dd := some 48) rfl rfl rfl tG (op_neq rfl (Opd.topt _ _ _ rfl tO) (Opd.const _)) ?_
  refine Run.pure (dd := some 49) rfl rfl (op_pick_or rfl (Opd.tmp _ _ rfl) (Opd.topt _ _ _ rfl tO)) ?_
  refine Run.pure (dd := some 50) rfl rfl (op_move rfl (Opd.tmp _ _ rfl)) ?_
  refine Run.pureG (dd := some 51) rfl rfl rfl tG (op_fld_ptr (by decide) rfl (Opd.tmp _ _ rfl)) ?_
  refine Run.loadG (dd := some 52) rfl rfl rfl tG (op_load1_flat rfl (Opd.topt _ _ _ rfl tO) tH rfl) ?_
  refine Run.pureG (dd := some 53) rfl rfl rfl tG (op_len_fz rfl (by first | exact Opd.topt _ _ _ rfl tO | exact Opd.nil _ _ (Opd.topt _ _ _ rfl tO)) (by first | exact List.length_map _ | rfl)) ?_
  refine Run.pureG (dd := some 54) rfl rfl rfl tG (op_neq rfl (Opd.topt _ _ _ rfl tO) (Opd.const _)) ?_
  refine Run.pure (dd := some 55) rfl rfl (op_pick_or rfl (Opd.tmp _ _ rfl) (Opd.topt _ _ _ rfl tO)) ?_
  refine Run.nil (FinR.mk ?_)
  refine nK ?_
  refine nK ?_
  refine n_cond _ rfl (fun hb => ?_) (fun hb => ?_)
  · exact absurd hb (by decide)
  · refine nK ?_
    refine s_reg rfl ?_
    refine Run.pure (dd := some 56) rfl rfl (op_fld_ptr (by decide) rfl (Opd.tmp _ _ rfl)) ?_
    refine Run.load (dd := some 57) rfl rfl (op_load1_flat rfl (Opd.tmp _ _ rfl) tH rfl) ?_
    refine Run.pure (dd := some 58) rfl rfl (op_buildSlice_fz rfl (RowsF.cons _ _ _ _ _ _ (Opd.const _) tC (by rfl) (RowsF.cons _ _ _ _ _ _ (Opd.const _) tC (by rfl) (RowsF.cons _ _ _ _ _ _ (Opd.const _) tC (by rfl) (RowsF.cons _ _ _ _ _ _ (Opd.const _) tC (by rfl) (RowsF.nil _))))) rfl rfl) ?_
    refine Run.pure (dd := some 59) rfl rfl (op_call_pure (fun _ => s [0, 1, 2, 1] [0, 1, 2, 1] (by decide) (by decide)) rfl (Opd.func _) (Opds.cons _ _ _ _ (Opd.tmp _ _ rfl) (Opds.cons _ _ _ _ (Opd.tmp _ _ rfl) Opds.nil))) ?_
    refine Run.pure (dd := some 60) rfl rfl (op_move rfl (Opd.tmp _ _ rfl)) ?_
    refine Run.pureG (dd := some 61) rfl rfl rfl tG (op_fld_ptr (by decide) rfl (Opd.tmp _ _ rfl)) ?_
    refine Run.loadG (dd := some 62) rfl rfl rfl tG (op_load1_flat rfl (Opd.topt _ _ _ rfl tO) tH rfl) ?_
    refine Run.pureG (dd := some 63) rfl rfl rfl tG (op_idx_fz 2 rfl (Opd.topt _ _ _ rfl tO) (Opd.const _) (by intro _; exact ⟨rfl, rfl⟩)) ?_
    refine Run.pureG (dd := some 64) rfl rfl rfl tG (op_load1_fz rfl (Opd.topt _ _ _ rfl tO) rfl) ?_
    refine Run.pureG (dd := some 65) rfl rfl rfl tG (op_buildSlice_fz rfl (RowsF.cons _ _ _ _ _ _ (Opd.const _) tC (by rfl) (RowsF.cons _ _ _ _ _ _ (Opd.const _) tC (by rfl) (RowsF.nil _))) rfl rfl) ?_
    refine Run.pureG (dd := some 66) rfl rfl rfl tG (op_call_pure (fun _ => s [1, 3] [1, 3] (by decide) (by decide)) rfl (Opd.func _) (Opds.cons _ _ _ _ (Opd.topt _ _ _ rfl tO) (Opds.cons _ _ _ _ (Opd.topt _ _ _ rfl tO) Opds.nil))) ?_
    refine Run.pure (dd := some 67) rfl rfl (op_pick_and rfl (Opd.tmp _ _ rfl) (Opd.topt _ _ _ rfl tO)) ?_
    refine Run.pure (dd := some 68) rfl rfl (op_move rfl (Opd.tmp _ _ rfl)) ?_
    refine Run.pureG (dd := some 69) rfl rfl rfl tG (op_fld_ptr (by decide) rfl (Opd.tmp _ _ rfl)) ?_
    refine Run.loadG (dd := some 70) rfl rfl rfl tG (op_load1_flat rfl (Opd.topt _ _ _ rfl tO) tH rfl) ?_
    refine Run.pureG (dd := some 71) rfl rfl rfl tG (op_idx_fz 2 rfl (Opd.topt _ _ _ rfl tO) (Opd.const _) (by intro _; exact ⟨rfl, rfl⟩)) ?_
    refine Run.pureG (dd := some 72) rfl rfl rfl tG (op_load1_fz rfl (Opd.topt _ _ _ rfl tO) rfl) ?_
    refine Run.pureG (dd := some 73) rfl rfl rfl tG (op_buildSlice_fz rfl (RowsF.cons _ _ _ _ _ _ (Opd.const _) tC (by rfl) (RowsF.cons _ _ _ _ _ _ (Opd.const _) tC (by rfl) (RowsF.nil _))) rfl rfl) ?_
    refine Run.pureG (dd := some 74) rfl rfl rfl tG (op_call_pure (fun _ => s [1, 3] [1, 3] (by decide) (by decide)) rfl (Opd.func _) (Opds.cons _ _ _ _ (Opd.topt _ _ _ rfl tO) (Opds.cons _ _ _ _ (Opd.topt _ _ _ rfl tO) Opds.nil))) ?_
    refine Run.pure (dd := some 75) rfl rfl (op_pick_and rfl (Opd.tmp _ _ rfl) (Opd.topt _ _ _ rfl tO)) ?_
    refine Run.pure (dd := some 76) rfl rfl (op_move rfl (Opd.tmp _ _ rfl)) ?_
    refine Run.loadG (dd := some 77) rfl rfl rfl tG (op_loadw_flat rfl (Opd.tmp _ _ rfl) tH rfl) ?_
    refine Run.pureG (dd := some 78) rfl rfl rfl tG (op_call_pure (fun _ => k3) rfl (Opd.func _) (Opds.cons _ _ _ _ (Opd.topt _ _ _ rfl tO) (Opds.cons _ _ _ _ (Opd.const _) Opds.nil))) ?_
    refine Run.pureG (dd := some 79) rfl rfl rfl tG (op_buildSlice_fz rfl (RowsF.cons _ _ _ _ _ _ (Opd.const _) tC (by rfl) (RowsF.cons _ _ _ _ _ _ (Opd.const _) tC (by rfl) (RowsF.cons _ _ _ _ _ _ (Opd.const _) tC (by rfl) (RowsF.nil _)))) rfl rfl) ?_
    refine Run.pureG (dd := some 80) rfl rfl rfl tG (op_call_pure (fun _ => s [0, 1, 2] [0, 1, 2] (by decide) (by decide)) rfl (Opd.func _) (Opds.cons _ _ _ _ (Opd.topt _ _ _ rfl tO) (Opds.cons _ _ _ _ (Opd.topt _ _ _ rfl tO) Opds.nil))) ?_
    refine Run.pure (dd := some 81) rfl rfl (op_pick_and rfl (Opd.tmp _ _ rfl) (Opd.topt _ _ _ rfl tO)) ?_
    refine Run.pure (dd := some 82) rfl rfl (op_move rfl (Opd.tmp _ _ rfl)) ?_
    refine Run.pureG (dd := some 83) rfl rfl rfl tG (op_fld_ptr (by decide) rfl (Opd.tmp _ _ rfl)) ?_
    refine Run.loadG (dd := some 84) rfl rfl rfl tG (op_load1_flat rfl (Opd.topt _ _ _ rfl tO) tH rfl) ?_
    refine Run.pureG (dd := some 85) rfl rfl rfl tG (op_buildSlice_fz rfl (RowsF.cons _ _ _ _ _ _ (Opd.const _) tC (by rfl) (RowsF.cons _ _ _ _ _ _ (Opd.const _) tC (by rfl) (RowsF.cons _ _ _ _ _ _ (Opd.const _) tC (by rfl) (RowsF.nil _)))) rfl rfl) ?_
    refine Run.pureG (dd := some 86) rfl rfl rfl tG (op_call_pure (fun _ => s [0, 3, 3] [0, 3, 3] (by decide) (by decide)) rfl (Opd.func _) (Opds.cons _ _ _ _ (Opd.topt _ _ _ rfl tO) (Opds.cons _ _ _ _ (Opd.topt _ _ _ rfl tO) Opds.nil))) ?_
    refine Run.pure (dd := some 87) rfl rfl (op_pick_and rfl (Opd.tmp _ _ rfl) (Opd.topt _ _ _ rfl tO)) ?_
    refine Run.pure (dd := some 88) rfl rfl (op_move rfl (Opd.tmp _ _ rfl)) ?_
    refine Run.pureG (dd := some 89) rfl rfl rfl tG (op_fld_ptr (by decide) rfl (Opd.tmp _ _ rfl)) ?_
    refine Run.loadG (dd := some 90) rfl rfl rfl tG (op_load1_flat rfl (Opd.topt _ _ _ rfl tO) tH rfl) ?_
    refine Run.pureG (dd := some 91) rfl rfl rfl tG (op_idx_fz 1 rfl (Opd.topt _ _ _ rfl tO) (Opd.const _) (by intro _; exact ⟨rfl, rfl⟩)) ?_
    refine Run.pureG (dd := some 92) rfl rfl rfl tG (op_load1_fz rfl (Opd.topt _ _ _ rfl tO) rfl) ?_
    refine Run.pureG (dd := some 93) rfl rfl rfl tG (op_buildSlice_fz rfl (RowsF.cons _ _ _ _ _ _ (Opd.const _) tC (by rfl) (RowsF.nil _)) rfl rfl) ?_
    refine Run.pureG (dd := some 94) rfl rfl rfl tG (op_call_pure (fun _ => s [1] [1] (by decide) (by decide)) rfl (Opd.func _) (Opds.cons _ _ _ _ (Opd.topt _ _ _ rfl tO) (Opds.cons _ _ _ _ (Opd.topt _ _ _ rfl tO) Opds.nil))) ?_
    refine Run.pure (dd := some 95) rfl rfl (op_pick_and rfl (Opd.tmp _ _ rfl) (Opd.topt _ _ _ rfl tO)) ?_
    refine Run.pure (dd := some 96) rfl rfl (op_move rfl (Opd.tmp _ _ rfl)) ?_
    refine Run.pureG (dd := some 97) rfl rfl rfl tG (op_fld_ptr (by decide) rfl (Opd.tmp _ _ rfl)) ?_
    refine Run.loadG (dd := some 98) rfl rfl rfl tG (op_load1_flat rfl (Opd.topt _ _ _ rfl tO) tH rfl) ?_
    refine Run.pureG (dd := some 99) rfl rfl rfl tG (op_idx_fz 2 rfl (Opd.topt _ _ _ rfl tO) (Opd.const _) (by intro _; exact ⟨rfl, rfl⟩)) ?_
    refine Run.pureG (dd := some 100) rfl rfl rfl tG (op_load1_fz rfl (Opd.topt _ _ _ rfl tO) rfl) ?_
    refine Run.pureG (dd := some 101) rfl rfl rfl tG (op_buildSlice_fz rfl (RowsF.cons _ _ _ _ _ _ (Opd.const _) tC (by rfl) (RowsF.nil _)) rfl rfl) ?_
    refine Run.pureG (dd := some 102) rfl rfl rfl tG (op_call_pure (fun _ => s [2] [2] (by decide) (by decide)) rfl (Opd.func _) (Opds.cons _ _ _ _ (Opd.topt _ _ _ rfl tO) (Opds.cons _ _ _ _ (Opd.topt _ _ _ rfl tO) Opds.nil))) ?_
    refine Run.pure (dd := some 103) rfl rfl (op_pick_and rfl (Opd.tmp _ _ rfl) (Opd.topt _ _ _ rfl tO)) ?_
    refine Run.pure (dd := some 0) rfl rfl (op_assign rfl (Opd.tmp _ _ rfl)) ?_
    refine Run.nil (FinR.mk ?_)
    refine nK ?_
    refine s_oB hC rfl rfl ?_
    decide
end Go.Proofs.Ytgbfkpcigipniaa
namespace Go.Proofs.Ytgbfkpcigipniaa
open Go Go.RT Go.Proofs Go.Pl
set_option linter.all false
set_option maxRecDepth 20000
set_option maxHeartbeats 4000000
end Go.Proofs.Ytgbfkpcigipniaa
namespace Go.Proofs.Ytgbfkpcigipniaa
open Go Go.RT Go.Proofs Go.Pl
set_option linter.all false
set_option maxRecDepth 20000
set_option maxHeartbeats 4000000
end Go.Proofs.Ytgbfkpcigipniaa
namespace Go.Proofs.Ytgbfkpcigipniaa
open Go Go.RT Go.Proofs Go.Pl
set_option linter.all false
set_option maxRecDepth 20000
set_option maxHeartbeats 4000000
end Go.Proofs.Ytgbfkpcigipniaa
namespace Go.Proofs.Ytgbfkpcigipniaa
open Go Go.RT Go.Proofs Go.Pl
set_option linter.all false
set_option maxRecDepth 20000
set_option maxHeartbeats 4000000
theorem smT_run {g : Gr} {a : Nat} {t : Tr} (h : RunOk g a t) : smT t := by
  have hv := h.vg
  have h128 := hv.n128
  have hel := hv.e1024
  have hdl := h.dl
  change t.dist.length = g.m at hdl
  have hpl := h.parl
  have hhl := h.hopInv.ok.len
  refine ⟨by omega, ⟨by omega, fun l hl => ?_⟩, ⟨by omega, fun l hl => ?_⟩⟩
  · obtain ⟨i, hi, rfl⟩ := List.mem_iff_getElem.1 hl
    have := (h.hopInv.ok.row i (by omega)).len
    simp [rowAt', List.getD_eq_getElem?_getD, hi] at this
    omega
  · obtain ⟨i, hi, rfl⟩ := List.mem_iff_getElem.1 hl
    have := (h.up.row i (by omega)).1
    simp [rowAt', List.getD_eq_getElem?_getD, hi] at this
    omega
theorem smT_zero : smT zeroT := ⟨by decide, ⟨by decide, fun l hl => by cases hl⟩, ⟨by decide, fun l hl => by cases hl⟩⟩
/-- what both functions Run return -/
theorem runs_c (g : Gr) (a : Int) (hok : okG g) : ∃ (t : Tr) (e : Int), smT t ∧ (e = 0 ↔ checkI g = 0 ∧ 0 ≤ a ∧ a < g.r) ∧ (e = 0 → ∃ n : Nat, a = n ∧ RunOk g n t) ∧
    Pure Try.prog 12 [.agg (encG g), If .i64 a] (.tup [.agg (encTr t), If .i64 e]) ∧ Pure Try.prog 13 [.agg (encG g), If .i64 a] (.tup [.agg (encTr t), If .i64 e]) := by
  by_cases hg : checkI g = 0
  · by_cases ha : a < 0 ∨ g.r ≤ a
    · exact ⟨zeroT, 5, smT_zero, by simp; omega, by simp, run_out g a hok hg ha, rrun_out g a hok hg ha⟩
    · obtain ⟨n, rfl⟩ : ∃ n : Nat, a = n := ⟨a.toNat, by omega⟩
      obtain ⟨t, ht⟩ := run_exists hg (a := n) (by omega)
      have hr := run_c g n t hok ht
      have hr2 := rrun_c g n hok hg (by omega)
      rw [← ht.refT (dst_of hg)] at hr2
      exact ⟨t, 0, smT_run ht, by simp [hg]; omega, fun _ => ⟨n, rfl, ht⟩, hr, hr2⟩
  · exact ⟨zeroT, checkI g, smT_zero, by simp [hg], fun h => absurd h hg, run_bad g a hok hg, rrun_bad g a hok hg⟩
theorem scheck_c (g : Gr) (t u : Tr) (e : Int) (ht : smT t) (hu : smT u) (hr : Pure Try.prog 12 [.agg (encG g), If .i64 t.root] (.tup [.agg (encTr u), If .i64 e])) : Pure Try.prog 26 [.agg (encG g), .agg (encTr t)] (Bf (decide (e = 0) && decide (u = t))) := by
  have hs := same_c u t hu ht
  refine Meets.intro Try.func26 rfl (Nat.le_of_ble_eq_true rfl) fun C hC => ?_
  simp only [List.map, argEnv, Nat.reduceAdd]
  refine nK ?_
  refine s_reg rfl ?_
  refine Run.eff (dd := some 2) rfl rfl (op_box_flat rfl (Opd.tmp _ _ rfl) tC rfl) ?_
  refine Run.eff (dd := some 3) rfl rfl (op_box_flat rfl (Opd.tmp _ _ rfl) tC rfl) ?_
  refine Run.pure (dd := some 4) rfl rfl (op_assign rfl (Opd.const _)) ?_
  refine Run.nil (FinR.mk ?_)
  refine nK ?_
  refine s_reg rfl ?_
  refine Run.load (dd := some 8) rfl rfl (op_loadw_flat rfl (Opd.tmp _ _ rfl) tH rfl) ?_
  refine Run.pure (dd := some 9) rfl rfl (op_fld_ptr (by decide) rfl (Opd.tmp _ _ rfl)) ?_
  refine Run.load (dd := some 10) rfl rfl (op_load1_flat rfl (Opd.tmp _ _ rfl) tH rfl) ?_
  refine Run.pure (dd := some 11) rfl rfl (op_call_pure (fun _ => hr) rfl (Opd.func _) (Opds.cons _ _ _ _ (Opd.tmp _ _ rfl) (Opds.cons _ _ _ _ (Opd.tmp _ _ rfl) Opds.nil))) ?_
  refine Run.pure (dd := some 7) rfl rfl (op_move rfl (Opd.tmp _ _ rfl)) ?_
  refine Run.pure (dd := some 12) rfl rfl (op_extract_fz rfl (Opd.tmp _ _ rfl) rfl) ?_
  refine Run.pure (dd := some 13) rfl rfl (op_extract_fz rfl (Opd.tmp _ _ rfl) rfl) ?_
  refine Run.eff (dd := some 5) rfl rfl (op_alloc rfl rfl rfl rfl) ?_
  refine Run.eff (dd := none) rfl rfl (op_store_flat rfl (Opd.tmp _ _ rfl) (Opd.tmp _ _ rfl) tC rfl rfl (by first | rfl | assumption) tS) ?_
  refine Run.pure (dd := some 6) rfl rfl (op_assign rfl (Opd.tmp _ _ rfl)) ?_
  refine Run.nil (FinR.mk ?_)
  refine nK ?_
  refine s_reg rfl ?_
  refine Run.pure (dd := some 14) rfl rfl (op_move rfl (Opd.tmp _ _ rfl)) ?_
  refine Run.pure (dd := some 15) rfl rfl (op_eql rfl (Opd.tmp _ _ rfl) (Opd.const _)) ?_
  refine Run.pure (dd := some 16) rfl rfl (op_move rfl (Opd.tmp _ _ rfl)) ?_
  refine Run.loadG (dd := some 17) rfl rfl rfl tG (op_loadw_flat rfl (Opd.tmp _ _ rfl) tH rfl) ?_
  refine Run.loadG (dd := some 18) rfl rfl rfl tG (op_loadw_flat rfl (Opd.tmp _ _ rfl) tH rfl) ?_
  refine Run.pureG (dd := some 19) rfl rfl rfl tG (op_call_pure (fun _ => hs) rfl (Opd.func _) (Opds.cons _ _ _ _ (Opd.topt _ _ _ rfl tO) (Opds.cons _ _ _ _ (Opd.topt _ _ _ rfl tO) Opds.nil))) ?_
  refine Run.pure (dd := some 20) rfl rfl (op_pick_and rfl (Opd.tmp _ _ rfl) (Opd.topt _ _ _ rfl tO)) ?_
  refine Run.pure (dd := some 4) rfl rfl (op_assign rfl (Opd.tmp _ _ rfl)) ?_
  refine Run.nil (FinR.mk ?_)
  refine nK ?_
  (first | exact s_o1 hC rfl tV | exact s_o2 hC rfl tV tV | exact s_o3 hC rfl tV tV tV | exact s_out0 hC rfl | exact s_outO hC rfl rfl rfl)
theorem checks_law (g : Gr) (t : Tr) (hok : okG g) (ht : smT t) : Pure Try.prog 11 [.agg (encG g), .agg (encTr t)] (Bf true) := by
  obtain ⟨u, e, hu, _, _, h1, h2⟩ := runs_c g t.root hok
  have hck := scheck_c g t u e ht hu h1
  have hs := rsame_c t u ht hu
  refine Meets.intro Try.func11 rfl (Nat.le_of_ble_eq_true rfl) fun C hC => ?_
  simp only [List.map, argEnv, Nat.reduceAdd]
  refine nK ?_
  refine s_reg rfl ?_
  refine Run.eff (dd := some 2) rfl rfl (op_box_flat rfl (Opd.tmp _ _ rfl) tC rfl) ?_
  refine Run.eff (dd := some 3) rfl rfl (op_box_flat rfl (Opd.tmp _ _ rfl) tC rfl) ?_
  refine Run.pure (dd := some 4) rfl rfl (op_assign rfl (Opd.const _)) ?_
  refine Run.nil (FinR.mk ?_)
  refine nK ?_
  refine s_reg rfl ?_
  refine Run.load (dd := some 8) rfl rfl (op_loadw_flat rfl (Opd.tmp _ _ rfl) tH rfl) ?_
  refine Run.pure (dd := some 9) rfl rfl (op_fld_ptr (by decide) rfl (Opd.tmp _ _ rfl)) ?_
  refine Run.load (dd := some 10) rfl rfl (op_load1_flat rfl (Opd.tmp _ _ rfl) tH rfl) ?_
  refine Run.pure (dd := some 11) rfl rfl (op_call_pure (fun _ => h2) rfl (Opd.func _) (Opds.cons _ _ _ _ (Opd.tmp _ _ rfl) (Opds.cons _ _ _ _ (Opd.tmp _ _ rfl) Opds.nil))) ?_
  refine Run.pure (dd := some 7) rfl rfl (op_move rfl (Opd.tmp _ _ rfl)) ?_
  refine Run.pure (dd := some 12) rfl rfl (op_extract_fz rfl (Opd.tmp _ _ rfl) rfl) ?_
  refine Run.pure (dd := some 13) rfl rfl (op_extract_fz rfl (Opd.tmp _ _ rfl) rfl) ?_
  refine Run.eff (dd := some 5) rfl rfl (op_alloc rfl rfl rfl rfl) ?_
  refine Run.eff (dd := none) rfl rfl (op_store_flat rfl (Opd.tmp _ _ rfl) (Opd.tmp _ _ rfl) tC rfl rfl (by first | rfl | assumption) tS) ?_
  refine Run.pure (dd := some 6) rfl rfl (op_assign rfl (Opd.tmp _ _ rfl)) ?_
  refine Run.nil (FinR.mk ?_)
  refine nK ?_
  refine s_reg rfl ?_
  refine Run.load (dd := some 14) rfl rfl (op_loadw_flat rfl (Opd.tmp _ _ rfl) tH rfl) ?_
  refine Run.load (dd := some 15) rfl rfl (op_loadw_flat rfl (Opd.tmp _ _ rfl) tH rfl) ?_
  refine Run.pure (dd := some 16) rfl rfl (op_call_pure (fun _ => hck) rfl (Opd.func _) (Opds.cons _ _ _ _ (Opd.tmp _ _ rfl) (Opds.cons _ _ _ _ (Opd.tmp _ _ rfl) Opds.nil))) ?_
  refine Run.pure (dd := some 17) rfl rfl (op_move rfl (Opd.tmp _ _ rfl)) ?_
  refine Run.pure (dd := some 18) rfl rfl (op_eql rfl (Opd.tmp _ _ rfl) (Opd.const _)) ?_
  refine Run.pure (dd := some 19) rfl rfl (op_move rfl (Opd.tmp _ _ rfl)) ?_
  refine Run.loadG (dd := some 20) rfl rfl rfl tG (op_loadw_flat rfl (Opd.tmp _ _ rfl) tH rfl) ?_
  refine Run.loadG (dd := some 21) rfl rfl rfl tG (op_loadw_flat rfl (Opd.tmp _ _ rfl) tH rfl) ?_
  refine Run.pureG (dd := some 22) rfl rfl rfl tG (op_call_pure (fun _ => hs) rfl (Opd.func _) (Opds.cons _ _ _ _ (Opd.topt _ _ _ rfl tO) (Opds.cons _ _ _ _ (Opd.topt _ _ _ rfl tO) Opds.nil))) ?_
  refine Run.pure (dd := some 23) rfl rfl (op_pick_and rfl (Opd.tmp _ _ rfl) (Opd.topt _ _ _ rfl tO)) ?_
  refine Run.pure (dd := some 24) rfl rfl (op_eqlB rfl (Opd.tmp _ _ rfl) (Opd.tmp _ _ rfl)) ?_
  refine Run.pure (dd := some 25) rfl rfl (op_move rfl (Opd.tmp _ _ rfl)) ?_
  refine Run.pureG (dd := some 26) rfl rfl rfl tG (op_call_pure (fun _ => lives_c) rfl (Opd.func _) Opds.nil) ?_
  refine Run.pure (dd := some 27) rfl rfl (op_pick_and rfl (Opd.tmp _ _ rfl) (Opd.topt _ _ _ rfl tO)) ?_
  refine Run.pure (dd := some 4) rfl rfl (op_assign rfl (Opd.tmp _ _ rfl)) ?_
  refine Run.nil (FinR.mk ?_)
  refine nK ?_
  refine s_oB hC rfl rfl ?_
  rw [show decide (u = t) = decide (t = u) from decide_eq_decide.2 eq_comm]
  simp
end Go.Proofs.Ytgbfkpcigipniaa
/- How the arguments of the rows read. -/
namespace Go.Proofs.Ytgbfkpcigipniaa
open Go Go.RT Go.Proofs Go.Pl
set_option linter.all false
variable {H : Type} {enc : TypeId × Value → H} {W : World} {ok : DataW H → Prop} {B : Nat}
theorem rdc_n : RdC ok enc Try.prog W 3 (fun fs => ∃ n, inr .i64 n ∧ fs = [If .i64 n]) := rdc_int (P := Try.prog) (t := 3) inferInstance
theorem rdc_edge (dn : DnOk H ok B) : RdC ok enc Try.prog W 41 (fun fs => ∃ e : Edg, okE e ∧ fs = encE e) :=
  (rdc_struct (P := Try.prog) (t := 41) dn Try.underlying41 (by kernel_rfl) (.cons _ _ _ _ rdc_n (.cons _ _ _ _ rdc_n (.cons _ _ _ _ rdc_n .nil)))).imp fun fs h => by
    obtain ⟨_, _, rfl, ⟨a, ha, rfl⟩, _, _, rfl, ⟨b, hb, rfl⟩, _, _, rfl, ⟨c, hc, rfl⟩, rfl⟩ := h
    exact ⟨⟨a, b, c⟩, ⟨ha, hb, hc⟩, rfl⟩
theorem rdc_edges (dn : DnOk H ok B) : RdC ok enc Try.prog W 22 (fun fs => ∃ l : List Edg, okEs l ∧ l.length ≤ B ∧ fs = [VE l]) :=
  (rdc_slice (P := Try.prog) (t := 22) (e := 41) dn inferInstance inferInstance (by decide) (rdc_edge dn)).imp fun fs h => by
    obtain ⟨rows, hr, hl, rfl⟩ := h
    obtain ⟨l, rfl, ho⟩ := rows_of (fun fs h => h) hr
    exact ⟨l, ho, by simpa using hl, rfl⟩
theorem rdc_graph (dn : DnOk H ok B) : RdC ok enc Try.prog W 24 (fun fs => ∃ g : Gr, okG g ∧ g.es.length ≤ B ∧ fs = encG g) :=
  (rdc_struct (P := Try.prog) (t := 24) dn Try.underlying24 (by kernel_rfl) (.cons _ _ _ _ rdc_n (.cons _ _ _ _ rdc_n (.cons _ _ _ _ (rdc_edges dn) .nil)))).imp fun fs h => by
    obtain ⟨_, _, rfl, ⟨a, ha, rfl⟩, _, _, rfl, ⟨b, hb, rfl⟩, _, _, rfl, ⟨l, hl, hB, rfl⟩, rfl⟩ := h
    exact ⟨⟨a, b, l⟩, ⟨ha, hb, hl⟩, hB, rfl⟩
theorem rdc_ints (dn : DnOk H ok B) : RdC ok enc Try.prog W 25 (fun fs => ∃ l : List Int, (∀ x ∈ l, inr .i64 x) ∧ l.length ≤ B ∧ fs = [VI l]) :=
  (rdc_slice (P := Try.prog) (t := 25) (e := 3) dn inferInstance inferInstance (by decide) rdc_n).imp fun fs h => by
    obtain ⟨rows, hr, hl, rfl⟩ := h
    obtain ⟨l, rfl, ho⟩ := rows_of (enc := encN) (fun fs h => h) hr
    exact ⟨l, ho, by simpa using hl, rfl⟩
theorem rdc_lists (dn : DnOk H ok B) : RdC ok enc Try.prog W 26 (fun fs => ∃ ll : List (List Int), (∀ l ∈ ll, (∀ x ∈ l, inr .i64 x) ∧ l.length ≤ B) ∧ ll.length ≤ B ∧ fs = [VLL ll]) :=
  (rdc_slice (P := Try.prog) (t := 26) (e := 25) dn inferInstance inferInstance (by decide) (rdc_ints dn)).imp fun fs h => by
    obtain ⟨rows, hr, hl, rfl⟩ := h
    obtain ⟨l, rfl, ho⟩ := rows_of (enc := encL) (ok := fun l => (∀ x ∈ l, inr .i64 x) ∧ l.length ≤ B) (fun fs h => by obtain ⟨l, h1, h2, h3⟩ := h; exact ⟨l, ⟨h1, h2⟩, h3⟩) hr
    exact ⟨l, ho, by simpa using hl, rfl⟩
def okTr (B : Nat) (t : Tr) : Prop := inr .i64 t.root ∧ (∀ x ∈ t.dist, inr .i64 x) ∧ t.dist.length ≤ B ∧ (∀ l ∈ t.hops, (∀ x ∈ l, inr .i64 x) ∧ l.length ≤ B) ∧ t.hops.length ≤ B ∧ (∀ l ∈ t.par, (∀ x ∈ l, inr .i64 x) ∧ l.length ≤ B) ∧ t.par.length ≤ B
theorem smT_of {t : Tr} (h : okTr maxLen t) : smT t := by
  obtain ⟨_, _, h1, h2, h3, h4, h5⟩ := h
  unfold maxLen at *
  exact ⟨by omega, ⟨by omega, fun l hl => by have := (h2 l hl).2; omega⟩, ⟨by omega, fun l hl => by have := (h4 l hl).2; omega⟩⟩
theorem rdc_tree (dn : DnOk H ok B) : RdC ok enc Try.prog W 28 (fun fs => ∃ t : Tr, okTr B t ∧ fs = encTr t) :=
  (rdc_struct (P := Try.prog) (t := 28) dn Try.underlying28 (by kernel_rfl) (.cons _ _ _ _ rdc_n (.cons _ _ _ _ (rdc_ints dn) (.cons _ _ _ _ (rdc_lists dn) (.cons _ _ _ _ (rdc_lists dn) .nil))))).imp fun fs h => by
    obtain ⟨_, _, rfl, ⟨a, ha, rfl⟩, _, _, rfl, ⟨d, hd1, hd2, rfl⟩, _, _, rfl, ⟨hs, hh1, hh2, rfl⟩, _, _, rfl, ⟨p, hp1, hp2, rfl⟩, rfl⟩ := h
    exact ⟨⟨a, d, hs, p⟩, ⟨ha, hd1, hd2, hh1, hh2, hp1, hp2⟩, rfl⟩
end Go.Proofs.Ytgbfkpcigipniaa
