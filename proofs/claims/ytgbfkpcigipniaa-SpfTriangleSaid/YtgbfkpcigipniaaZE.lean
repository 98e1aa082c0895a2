/- A part of the proof: GP4, GP5, HP4, RT31, HP5, P10, P11, HP6, P12, GP6, GP7, GP8, GP9, GP10, SRT1, P13, P14, HP7, P15, HP8, HP9. -/
import Derived.Test.YtgbfkpcigipniaaZD
import Derived.Shelf.SlSortCmp.Whole1
set_option linter.all false
/- The valid graph of edges: sorted, of several edges between the same nodes the cheapest. -/
namespace Go.Pl
open Go.RT Go.Shelf Go.Proofs
set_option linter.all false
instance : Inhabited Edg := ⟨⟨0, 0, 0⟩⟩
def ordC (a b : Edg) : Int := if ordE a b ≠ 0 then ordE a b else cmpI a.c b.c
def eqK (a b : Edg) : Bool := decide (ordE a b = 0)
theorem cmpI_neg (a b : Int) : cmpI a b < 0 ↔ a < b := by unfold cmpI; split <;> (try split) <;> omega
theorem cmpI_zero (a b : Int) : cmpI a b = 0 ↔ a = b := by unfold cmpI; split <;> (try split) <;> omega
theorem ordE_neg (a b : Edg) : ordE a b < 0 ↔ a.f < b.f ∨ a.f = b.f ∧ a.t < b.t := by
  unfold ordE
  by_cases h : cmpI a.f b.f = 0
  · rw [if_neg (by simp [h]), cmpI_neg]; have := (cmpI_zero _ _).1 h; omega
  · rw [if_pos h, cmpI_neg]; have : ¬ a.f = b.f := fun e => h ((cmpI_zero _ _).2 e); omega
theorem ordE_zero (a b : Edg) : ordE a b = 0 ↔ a.f = b.f ∧ a.t = b.t := by
  unfold ordE
  by_cases h : cmpI a.f b.f = 0
  · rw [if_neg (by simp [h]), cmpI_zero]; have := (cmpI_zero _ _).1 h; omega
  · rw [if_pos h]; have : ¬ a.f = b.f := fun e => h ((cmpI_zero _ _).2 e); omega
theorem ordC_neg (a b : Edg) : ordC a b < 0 ↔ a.f < b.f ∨ a.f = b.f ∧ (a.t < b.t ∨ a.t = b.t ∧ a.c < b.c) := by
  unfold ordC
  by_cases h : ordE a b = 0
  · rw [if_neg (by simp [h]), cmpI_neg]; have := (ordE_zero _ _).1 h; omega
  · rw [if_pos h, ordE_neg]; have : ¬ (a.f = b.f ∧ a.t = b.t) := fun e => h ((ordE_zero _ _).2 e); omega
theorem eqK_iff (a b : Edg) : eqK a b = true ↔ a.f = b.f ∧ a.t = b.t := by simp [eqK, ordE_zero]
theorem ltC (a b : Edg) : ltOf ordC a b = decide (a.f < b.f ∨ a.f = b.f ∧ (a.t < b.t ∨ a.t = b.t ∧ a.c < b.c)) := by
  unfold ltOf; rw [Bool.eq_iff_iff]; simp [ordC_neg]
theorem swo_c : Go.Sort.SWO (ltOf ordC) where
  irrefl x := by rw [ltC]; simp
  trans x y z h1 h2 := by rw [ltC] at *; simp at *; omega
  ntrans x y z h1 h2 := by rw [ltC] at *; simp only [decide_eq_false_iff_not] at *; omega
def srtC (l : List Edg) : List Edg := sortBy ordC l
def ofL (l : List Edg) : List Edg := compL eqK (srtC l)
def zeroG : Gr := ⟨0, 0, []⟩
def ofF (r n : Int) (l : List Edg) : Gr × Int := if checkI ⟨r, n, ofL l⟩ ≠ 0 then (zeroG, checkI ⟨r, n, ofL l⟩) else (⟨r, n, ofL l⟩, 0)
theorem srtC_perm (l : List Edg) : (srtC l).Perm l := (sortBy_spec ordC swo_c l).1
theorem srtC_len (l : List Edg) : (srtC l).length = l.length := (sortBy_spec ordC swo_c l).2.1
def leC (a b : Edg) : Prop := a.f < b.f ∨ a.f = b.f ∧ (a.t < b.t ∨ a.t = b.t ∧ a.c ≤ b.c)
theorem srtC_sorted (l : List Edg) : (srtC l).Pairwise leC := by
  obtain ⟨_, _, h⟩ := sortBy_spec ordC swo_c l
  show (sortBy ordC l).Pairwise leC
  rw [List.pairwise_iff_getElem]
  intro i j hi hj hij
  have := h i j _ _ hij (List.getElem?_eq_getElem hi) (List.getElem?_eq_getElem hj)
  rw [ordC_neg] at this
  unfold leC
  omega
theorem ddF_sub {α : Type} (eq : α → α → Bool) : ∀ (l : List α) (p x : α), x ∈ ddF eq p l → x ∈ l
  | [], _, _, h => by simp [ddF] at h
  | y :: l, p, x, h => by
    simp only [ddF] at h
    cases he : eq y p
    · rw [he, cond_false] at h
      rcases List.mem_cons.1 h with rfl | h
      · exact List.mem_cons_self ..
      · exact List.mem_cons_of_mem _ (ddF_sub eq l y x h)
    · rw [he, cond_true] at h
      exact List.mem_cons_of_mem _ (ddF_sub eq l y x h)
theorem compL_sub {α : Type} (eq : α → α → Bool) (l : List α) (x : α) (h : x ∈ compL eq l) : x ∈ l := by
  cases l with
  | nil => simp [compL] at h
  | cons p l =>
    rcases List.mem_cons.1 h with rfl | h
    · exact List.mem_cons_self ..
    · exact List.mem_cons_of_mem _ (ddF_sub eq l p x h)
theorem ofL_sub (l : List Edg) (x : Edg) (h : x ∈ ofL l) : x ∈ l := (srtC_perm l).mem_iff.1 (compL_sub _ _ _ h)
theorem ofL_len (l : List Edg) : (ofL l).length ≤ l.length := by
  have h1 := compL_len eqK (srtC l)
  have h2 := srtC_len l
  unfold ofL; omega
theorem ofL_ok {r n : Int} {l : List Edg} (hr : inr .i64 r) (hn : inr .i64 n) (hl : okEs l) : okG ⟨r, n, ofL l⟩ := ⟨hr, hn, fun e he => hl e (ofL_sub l e he)⟩
/-- strictly ascending by their ends -/
def ltK (a b : Edg) : Prop := a.f < b.f ∨ a.f = b.f ∧ a.t < b.t
theorem ltK_bef (a b : Edg) : befB a b = true ↔ ltK a b := by simp [befB, ltK]
def AscK (l : List Edg) : Prop := l.Pairwise ltK
theorem AscK.ext : ∀ {a b : List Edg}, AscK a → AscK b → (∀ p, p ∈ a ↔ p ∈ b) → a = b
  | [], [], _, _, _ => rfl
  | [], y :: b, _, _, h => by have := (h y).2 (List.mem_cons_self ..); cases this
  | x :: a, [], _, _, h => by have := (h x).1 (List.mem_cons_self ..); cases this
  | x :: a, y :: b, ha, hb, h => by
    obtain ⟨a1, a2⟩ := List.pairwise_cons.1 ha
    obtain ⟨b1, b2⟩ := List.pairwise_cons.1 hb
    have e : x = y := by
      rcases List.mem_cons.1 ((h x).1 (List.mem_cons_self ..)) with e | h1
      · exact e
      · rcases List.mem_cons.1 ((h y).2 (List.mem_cons_self ..)) with e | h2
        · exact e.symm
        · have := b1 x h1; have := a1 y h2; unfold ltK at *; omega
    subst e
    refine congrArg _ (AscK.ext a2 b2 fun p => ?_)
    constructor
    · intro hp
      rcases List.mem_cons.1 ((h p).1 (List.mem_cons_of_mem _ hp)) with e | h1
      · subst e; have := a1 p hp; unfold ltK at *; omega
      · exact h1
    · intro hp
      rcases List.mem_cons.1 ((h p).2 (List.mem_cons_of_mem _ hp)) with e | h1
      · subst e; have := b1 p hp; unfold ltK at *; omega
      · exact h1
/-- the cheapest edge of each pair of ends, ascending -/
structure Least (l s : List Edg) : Prop where
  asc : AscK s
  sub : ∀ e ∈ s, e ∈ l
  min : ∀ e ∈ s, ∀ e' ∈ l, e'.f = e.f → e'.t = e.t → e.c ≤ e'.c
  all : ∀ e' ∈ l, ∃ e ∈ s, e.f = e'.f ∧ e.t = e'.t
theorem Least.uniq {l a b : List Edg} (ha : Least l a) (hb : Least l b) : a = b := by
  have key : ∀ {a b : List Edg}, Least l a → Least l b → ∀ p, p ∈ a → p ∈ b := fun {a b} ha hb p hp => by
    obtain ⟨q, hq, h1, h2⟩ := hb.all p (ha.sub p hp)
    have := ha.min p hp q (hb.sub q hq) h1 h2
    have := hb.min q hq p (ha.sub p hp) h1.symm h2.symm
    have : p = q := by cases p; cases q; simp only [Edg.mk.injEq]; simp only at *; omega
    rw [this]; exact hq
  exact AscK.ext ha.asc hb.asc fun p => ⟨key ha hb p, key hb ha p⟩
theorem ddF_least : ∀ (l : List Edg) (p : Edg) (q : Edg), (p :: l).Pairwise leC → q.f = p.f → q.t = p.t → q.c ≤ p.c → (∀ e ∈ l, leC q e) → Least (q :: l) (q :: ddF eqK p l)
  | [], p, q, _, _, _, _, _ => ⟨by simp [AscK, ddF], fun e he => by simpa [ddF] using he, fun e he e' he' _ _ => by simp [ddF] at he he'; subst he; subst he'; exact Int.le_refl _, fun e' he' => ⟨e', by simpa [ddF] using he', rfl, rfl⟩⟩
  | y :: l, p, q, h, q1, q2, q3, hq => by
    obtain ⟨h1, h2⟩ := List.pairwise_cons.1 h
    have hy := h1 y (List.mem_cons_self ..)
    have hqy := hq y (List.mem_cons_self ..)
    simp only [ddF]
    cases he : eqK y p with
    | true =>
      rw [cond_true]
      have hk := (eqK_iff y p).1 he
      have ih := ddF_least l y q h2 (by omega) (by omega) (by unfold leC at hqy; omega) (fun e hel => hq e (List.mem_cons_of_mem _ hel))
      refine ⟨ih.asc, fun e hel => ?_, fun e hel e' hel' g1 g2 => ?_, fun e' hel' => ?_⟩
      · rcases List.mem_cons.1 (ih.sub e hel) with rfl | h
        · exact List.mem_cons_self ..
        · exact List.mem_cons_of_mem _ (List.mem_cons_of_mem _ h)
      · rcases List.mem_cons.1 hel' with rfl | h
        · exact ih.min e hel e' (List.mem_cons_self ..) g1 g2
        · rcases List.mem_cons.1 h with rfl | h
          · -- y itself: the same ends as q
            have := ih.min e hel q (List.mem_cons_self ..) (by omega) (by omega)
            unfold leC at hqy; omega
          · exact ih.min e hel e' (List.mem_cons_of_mem _ h) g1 g2
      · rcases List.mem_cons.1 hel' with rfl | h
        · exact ih.all e' (List.mem_cons_self ..)
        · rcases List.mem_cons.1 h with rfl | h
          · exact ⟨q, List.mem_cons_self .., by omega, by omega⟩
          · exact ih.all e' (List.mem_cons_of_mem _ h)
    | false =>
      rw [cond_false]
      have hk : ¬ (y.f = p.f ∧ y.t = p.t) := fun hh => by rw [(eqK_iff y p).2 hh] at he; cases he
      have ih := ddF_least l y y h2 rfl rfl (Int.le_refl _) (fun e hel => (List.pairwise_cons.1 h2).1 e hel)
      have hlt : ltK q y := by unfold leC at hy; unfold ltK; omega
      have hall : ∀ e ∈ y :: l, ltK q e := fun e hel => by
        rcases List.mem_cons.1 hel with rfl | h
        · exact hlt
        · have := (List.pairwise_cons.1 h2).1 e h
          unfold leC at this; unfold ltK at *; omega
      refine ⟨List.pairwise_cons.2 ⟨fun e hel => hall e (ih.sub e hel), ih.asc⟩, fun e hel => ?_, fun e hel e' hel' g1 g2 => ?_, fun e' hel' => ?_⟩
      · rcases List.mem_cons.1 hel with rfl | h
        · exact List.mem_cons_self ..
        · exact List.mem_cons_of_mem _ (ih.sub e h)
      · rcases List.mem_cons.1 hel with rfl | h
        · rcases List.mem_cons.1 hel' with rfl | h'
          · exact Int.le_refl _
          · have := hall e' h'; unfold ltK at this; omega
        · rcases List.mem_cons.1 hel' with rfl | h'
          · have := hall e (ih.sub e h); unfold ltK at this; omega
          · exact ih.min e h e' h' g1 g2
      · rcases List.mem_cons.1 hel' with rfl | h
        · exact ⟨e', List.mem_cons_self .., rfl, rfl⟩
        · obtain ⟨e, he1, he2⟩ := ih.all e' h
          exact ⟨e, List.mem_cons_of_mem _ he1, he2⟩
theorem ofL_least (l : List Edg) : Least l (ofL l) := by
  have hp := srtC_perm l
  have hs := srtC_sorted l
  unfold ofL
  generalize srtC l = s at *
  have main : Least s (compL eqK s) := by
    cases s with
    | nil => exact ⟨by simp [AscK, compL], by simp [compL], by simp [compL], by simp⟩
    | cons x s => exact ddF_least s x x hs rfl rfl (Int.le_refl _) (fun e he => (List.pairwise_cons.1 hs).1 e he)
  exact ⟨main.asc, fun e he => hp.mem_iff.1 (main.sub e he), fun e he e' he' => main.min e he e' (hp.mem_iff.2 he'), fun e' he' => main.all e' (hp.mem_iff.2 he')⟩
end Go.Pl
/- Which nodes can be reached. -/
namespace Go.Pl
open Go.RT
set_option linter.all false
inductive Rch (l : List Edg) (a : Int) : Int → Prop where
  | here : Rch l a a
  | step (e : Edg) : e ∈ l → Rch l a e.f → Rch l a e.t
open Classical in
noncomputable def reachL (g : Gr) (a : Int) : List Bool := (List.range (g.r + g.n).toNat).map fun (v : Nat) => decide (Rch g.es a (v : Int))
theorem reachL_len (g : Gr) (a : Int) : (reachL g a).length = (g.r + g.n).toNat := by simp [reachL]
theorem reachL_get (g : Gr) (a : Int) (v : Nat) (h : v < (g.r + g.n).toNat) (b : Bool) : (reachL g a)[v]? = some b ↔ (b = true ↔ Rch g.es a (v : Int)) := by
  unfold reachL
  rw [List.getElem?_map, List.getElem?_range h]
  simp only [Option.map_some, Option.some.injEq]
  constructor
  · rintro rfl; simp
  · intro hb
    rw [Bool.eq_iff_iff, hb]; simp
/-- a list of truth values is the one of reached nodes -/
theorem reachL_of {g : Gr} {a : Int} {out : List Bool} (hl : out.length = (g.r + g.n).toNat) (h : ∀ v : Nat, v < (g.r + g.n).toNat → (out[v]? = some true ↔ Rch g.es a (v : Int))) : out = reachL g a := by
  apply List.ext_getElem?
  intro v
  by_cases hv : v < (g.r + g.n).toNat
  · have hv2 : v < out.length := by omega
    rw [List.getElem?_eq_getElem hv2]
    have h1 := h v hv
    rw [List.getElem?_eq_getElem hv2] at h1
    exact ((reachL_get g a v hv out[v]).2 (by rw [← h1]; simp)).symm
  · rw [List.getElem?_eq_none (by omega), List.getElem?_eq_none (by rw [reachL_len]; omega)]
/-- closed under the edges, with nothing but what is reached: all that is reached -/
theorem closed_all {l : List Edg} {a : Int} {out : List Bool} (h0 : 0 ≤ a) (ha : out[a.toNat]? = some true) (hin : ∀ e ∈ l, 0 ≤ e.f ∧ 0 ≤ e.t)
    (hc : ∀ e ∈ l, out[e.f.toNat]? = some true → out[e.t.toNat]? = some true) : ∀ x, Rch l a x → 0 ≤ x ∧ out[x.toNat]? = some true := by
  intro x hx
  induction hx with
  | here => exact ⟨h0, ha⟩
  | step e he _ ih => exact ⟨(hin e he).2, hc e he ih.2⟩
/-- a checked graph's edges lie between its nodes -/
theorem chkL_alw {g : Gr} : ∀ (l : List Edg) (p : Option Edg), chkL g p l = 0 → ∀ e ∈ l, alwI g e = 0
  | [], _, _, e, he => by cases he
  | x :: l, p, h, e, he => by
    simp only [chkL] at h
    by_cases h1 : alwI g x = 0
    · rw [if_neg (by simp [h1])] at h
      by_cases h2 : badP p x = true
      · rw [if_pos h2] at h; cases h
      · rw [if_neg h2] at h
        rcases List.mem_cons.1 he with rfl | he
        · exact h1
        · exact chkL_alw l _ h e he
    · rw [if_pos h1] at h; exact absurd h h1
theorem checkI_ok {g : Gr} (h : checkI g = 0) : szOk g ∧ g.es.length ≤ 1024 ∧ chkL g none g.es = 0 := by
  unfold checkI at h
  by_cases h1 : sizeI g = 0
  · rw [if_neg (by simp [h1])] at h
    exact ⟨(sizeI_ok h1).1, (sizeI_ok h1).2, h⟩
  · rw [if_pos h1] at h; exact absurd h h1
theorem alwI_node {g : Gr} {e : Edg} (h : alwI g e = 0) : (0 ≤ e.f ∧ e.f < g.r + g.n) ∧ (0 ≤ e.t ∧ e.t < g.r + g.n) := by
  unfold alwI at h
  by_cases h1 : nodeB g e.f = false ∨ nodeB g e.t = false
  · rw [if_pos h1] at h; cases h
  · simp only [not_or, Bool.not_eq_false, nodeB, Bool.and_eq_true, decide_eq_true_eq] at h1
    exact h1
theorem check_edges {g : Gr} (h : checkI g = 0) : ∀ e ∈ g.es, (0 ≤ e.f ∧ e.f < g.r + g.n) ∧ (0 ≤ e.t ∧ e.t < g.r + g.n) := fun e he => alwI_node (chkL_alw _ _ (checkI_ok h).2.2 e he)
/-- how many are marked -/
def cntT (l : List Bool) : Nat := l.countP (· == true)
theorem cntT_set {l : List Bool} {v : Nat} (h : l[v]? = some false) : cntT (l.set v true) = cntT l + 1 := by
  obtain ⟨hv, he⟩ := List.getElem?_eq_some_iff.1 h
  induction l generalizing v with
  | nil => simp at hv
  | cons x l ih =>
    cases v with
    | zero => simp at he; subst he; simp [cntT]
    | succ v =>
      have hv2 : v < l.length := by simpa using hv
      have := ih (by simpa using h) hv2 (by simpa using he)
      unfold cntT at *
      simp only [List.set_cons_succ, List.countP_cons, this]; omega
theorem cntT_le (l : List Bool) : cntT l ≤ l.length := List.countP_le_length
end Go.Pl
namespace Go.Pl
open Go.RT
open Classical in
noncomputable def reachG (g : Gr) (a : Int) : List Bool := if checkI g ≠ 0 ∨ nodeB g a = false then [] else reachL g a
/-- what the search knows -/
structure Bfs (g : Gr) (a : Int) (out : List Bool) (l : List Int) (i : Nat) : Prop where
  len : out.length = (g.r + g.n).toNat
  from_ : out[a.toNat]? = some true
  i_le : i ≤ l.length
  mem : ∀ x ∈ l, 0 ≤ x ∧ x < g.r + g.n ∧ out[x.toNat]? = some true ∧ Rch g.es a x
  all : ∀ v : Nat, out[v]? = some true → (v : Int) ∈ l
  cnt : l.length = cntT out
  done : ∀ x ∈ l.take i, ∀ e ∈ g.es, e.f = x → out[e.t.toNat]? = some true
theorem bfs_end {g : Gr} {a : Int} {out : List Bool} {l : List Int} (hg : checkI g = 0) (ha : nodeB g a = true) (h : Bfs g a out l l.length) : out = reachL g a := by
  have he := check_edges hg
  have ha2 : 0 ≤ a ∧ a < g.r + g.n := by simpa [nodeB] using ha
  refine reachL_of h.len fun v hv => ⟨fun hb => (h.mem _ (h.all v hb)).2.2.2, fun hr => ?_⟩
  have := closed_all ha2.1 h.from_ (fun e hel => ⟨(he e hel).1.1, (he e hel).2.1⟩) (fun e hel hb => h.done e.f (by rw [List.take_length]; have := h.all _ hb; rwa [Int.toNat_of_nonneg (he e hel).1.1] at this) e hel rfl) _ hr
  simpa using this.2
theorem set_true {out : List Bool} {v w : Nat} (h : out[w]? = some true) : (out.set v true)[w]? = some true := by
  rw [List.getElem?_set]
  obtain ⟨h1, _⟩ := List.getElem?_eq_some_iff.1 h
  split
  · rename_i e; subst e; rw [if_pos h1]
  · exact h
theorem Bfs.mark {g : Gr} {a : Int} {out : List Bool} {l : List Int} {i : Nat} (h : Bfs g a out l i) {x : Int} (hx0 : 0 ≤ x) (hx1 : x < g.r + g.n) (hf : out[x.toNat]? = some false) (hr : Rch g.es a x) : Bfs g a (out.set x.toNat true) (l ++ [x]) i := by
  obtain ⟨hv, _⟩ := List.getElem?_eq_some_iff.1 hf
  refine ⟨by rw [List.length_set]; exact h.len, set_true h.from_, by have := h.i_le; simp; omega, fun y hy => ?_, fun v hv2 => ?_, by rw [cntT_set hf, List.length_append, h.cnt]; rfl, fun y hy e he1 he2 => ?_⟩
  · rcases List.mem_append.1 hy with hy | hy
    · obtain ⟨m1, m2, m3, m4⟩ := h.mem y hy
      exact ⟨m1, m2, set_true m3, m4⟩
    · have : y = x := by simpa using hy
      subst this
      exact ⟨hx0, hx1, by rw [List.getElem?_set, if_pos rfl, if_pos hv], hr⟩
  · rw [List.getElem?_set] at hv2
    split at hv2
    · rename_i e; subst e; refine List.mem_append.2 (.inr ?_); rw [Int.toNat_of_nonneg hx0]; simp
    · exact List.mem_append.2 (.inl (h.all v hv2))
  · rw [List.take_append_of_le_length h.i_le] at hy
    exact set_true (h.done y hy e he1 he2)
theorem Bfs.next {g : Gr} {a : Int} {out : List Bool} {l : List Int} {i : Nat} (h : Bfs g a out l i) {x : Int} (hx : l[i]? = some x) (hd : ∀ y ∈ nextI x g.es, out[y.toNat]? = some true) : Bfs g a out l (i + 1) := by
  obtain ⟨hi, hxe⟩ := List.getElem?_eq_some_iff.1 hx
  refine ⟨h.len, h.from_, hi, h.mem, h.all, h.cnt, fun y hy e he1 he2 => ?_⟩
  rw [List.take_succ_eq_append_getElem hi] at hy
  rcases List.mem_append.1 hy with hy | hy
  · exact h.done y hy e he1 he2
  · have : y = x := by simpa [hxe] using hy
    exact hd e.t (((nextI_spec x g.es).2 e.t).2 ⟨e, he1, by omega, rfl⟩)
theorem Bfs.start {g : Gr} {k : Nat} (hk : (k : Int) < g.r + g.n) : Bfs g k ((List.replicate (g.r + g.n).toNat false).set k true) [(k : Int)] 0 := by
  have hf : (List.replicate (g.r + g.n).toNat false)[k]? = some false := by rw [List.getElem?_replicate, if_pos (by omega)]
  have h0 : cntT (List.replicate (g.r + g.n).toNat false) = 0 := by
    unfold cntT; rw [List.countP_eq_zero]; intro b hb; rw [List.eq_of_mem_replicate hb]; simp
  have hkk : ((List.replicate (g.r + g.n).toNat false).set k true)[k]? = some true := by rw [List.getElem?_set, if_pos rfl, if_pos (by simp; omega)]
  refine ⟨by simp, by simpa using hkk, by simp, fun x hx => ?_, fun v hv => ?_, by rw [cntT_set hf, h0]; rfl, fun x hx => by simp at hx⟩
  · have : x = k := by simpa using hx
    subst this
    exact ⟨by omega, hk, by simpa using hkk, .here⟩
  · rw [List.getElem?_set] at hv
    split at hv
    · rename_i e; subst e; simp
    · rw [List.getElem?_replicate] at hv; split at hv <;> simp at hv
end Go.Pl
namespace Go.Pl
open Go Go.RT
set_option linter.all false
/- walks and distances -/
structure VG (es : List Edg) (r n : Nat) : Prop where
  f : ∀ e ∈ es, 0 ≤ e.f ∧ e.f < n
  t : ∀ e ∈ es, 0 ≤ e.t ∧ e.t < n
  c : ∀ e ∈ es, 0 ≤ e.c ∧ e.c ≤ 65535
  net : ∀ e ∈ es, (r : Int) ≤ e.f → e.t < r ∧ e.c = 0
  rt : ∀ e ∈ es, e.f < (r : Int) → 1 ≤ e.c
  ne : ∀ e ∈ es, e.f ≠ e.t
  asc : AscK es
  le : r ≤ n
  n128 : n ≤ 128
  e1024 : es.length ≤ 1024
inductive Wk (es : List Edg) (a : Nat) : Nat → Int → Prop where
  | nil : Wk es a a 0
  | snoc {e : Edg} {c : Int} : Wk es a e.f.toNat c → e ∈ es → Wk es a e.t.toNat (c + e.c)
theorem Wk.app {es : List Edg} {a b v : Nat} {c d : Int} (h : Wk es a b c) (g : Wk es b v d) : Wk es a v (c + d) := by
  induction g with
  | nil => simpa using h
  | snoc g he ih => have := Wk.snoc ih he; rwa [Int.add_assoc] at this
theorem Wk.nn {es : List Edg} {r n : Nat} (vg : VG es r n) {a v : Nat} {c : Int} (h : Wk es a v c) : 0 ≤ c := by
  induction h with
  | nil => exact Int.le_refl _
  | snoc h he ih => have := (vg.c _ he).1; omega
theorem Wk.lt {es : List Edg} {r n : Nat} (vg : VG es r n) {a v : Nat} {c : Int} (h : Wk es a v c) (ha : a < n) : v < n := by
  cases h with
  | nil => exact ha
  | snoc h he => have := (vg.t _ he); omega
theorem Wk.mono {es es' : List Edg} (hs : ∀ e ∈ es, e ∈ es') {a v : Nat} {c : Int} (h : Wk es a v c) : Wk es' a v c := by
  induction h with
  | nil => exact .nil
  | snoc h he ih => exact .snoc ih (hs _ he)
def IsD (es : List Edg) (a v : Nat) (d : Int) : Prop := (d = -1 ∧ ∀ c, ¬ Wk es a v c) ∨ (Wk es a v d ∧ ∀ c, Wk es a v c → d ≤ c)
theorem IsD.uniq {es : List Edg} {a v : Nat} {d d' : Int} (h : IsD es a v d) (g : IsD es a v d') : d = d' := by
  rcases h with ⟨h1, h2⟩ | ⟨h1, h2⟩ <;> rcases g with ⟨g1, g2⟩ | ⟨g1, g2⟩
  · omega
  · exact absurd g1 (h2 _)
  · exact absurd h1 (g2 _)
  · have := h2 _ g1; have := g2 _ h1; omega
theorem nodup_len : ∀ (n : Nat) (l : List Nat), l.Nodup → (∀ x ∈ l, x < n) → l.length ≤ n
  | 0, l, _, h => by cases l with
    | nil => simp
    | cons x l => have := h x (by simp); omega
  | n + 1, l, hd, h => by
    by_cases hm : n ∈ l
    · have := nodup_len n (l.erase n) (hd.erase n) (fun x hx => by
        have h1 := h x (List.mem_of_mem_erase hx)
        have h2 : x ≠ n := fun e => by rw [e] at hx; exact (List.Nodup.not_mem_erase hd) hx
        omega)
      rw [List.length_erase_of_mem hm] at this; omega
    · have := nodup_len n l hd (fun x hx => by
        have h1 := h x hx
        have h2 : x ≠ n := fun e => hm (by rw [← e]; exact hx)
        omega)
      omega
theorem HI.small {h : Hq} (o : HI h) : h.it.length ≤ h.pl.length := by
  refine nodup_len _ _ ?_ o.ok.lt
  rw [List.Nodup, List.pairwise_iff_getElem]
  intro i j hi hj hij e
  have e1 : ∀ k (hk : k < h.it.length), h.item k = h.it[k] := fun k hk => by unfold Hq.item; rw [List.getD_eq_getElem?_getD, List.getElem?_eq_getElem hk]; rfl
  have h1 := o.inv i hi
  have h2 := o.inv j hj
  rw [e1 i hi] at h1; rw [e1 j hj] at h2
  rw [e, h2] at h1; omega
abbrev gt0 (l : List Int) (v : Nat) : Int := l.getD v 0
def cntP (l : List Int) : Nat := l.countP fun x => decide (0 ≤ x)
theorem cntP_cons (x : Int) (l : List Int) : cntP (x :: l) = cntP l + if 0 ≤ x then 1 else 0 := by
  unfold cntP; rw [List.countP_cons]; simp
theorem cntP_set {l : List Int} {v : Nat} {k : Int} (hv : v < l.length) (hn : gt0 l v < 0) (hk : 0 ≤ k) : cntP (l.set v k) = cntP l + 1 := by
  induction l generalizing v with
  | nil => simp at hv
  | cons x l ih =>
    cases v with
    | zero =>
      have h1 : x < 0 := by simpa [gt0] using hn
      rw [List.set_cons_zero, cntP_cons, cntP_cons, if_pos hk, if_neg (by omega)]
    | succ v =>
      rw [List.set_cons_succ, cntP_cons, cntP_cons, ih (by simpa using hv) (by simpa [gt0] using hn)]; omega
theorem cntP_le (l : List Int) : cntP l ≤ l.length := List.countP_le_length
structure DJ (es : List Edg) (n : Nat) (a : Nat) (dist : List Int) (h : Hq) (todo : List Edg) : Prop where
  hg : HG h
  hl : h.pl.length = n
  dl : dist.length = n
  fin : ∀ v, v < n → 0 ≤ gt0 dist v → Wk es a v (gt0 dist v) ∧ ∀ c, Wk es a v c → gt0 dist v ≤ c
  neg : ∀ v, v < n → gt0 dist v < 0 → gt0 dist v = -1
  q : ∀ v, v < n → 0 ≤ h.place v → gt0 dist v < 0 ∧ Wk es a v (h.key v) ∧ h.key v ≤ 65535 * cntP dist
  rel : ∀ e ∈ es, 0 ≤ gt0 dist e.f.toNat → e ∈ todo ∨ 0 ≤ gt0 dist e.t.toNat ∨ (0 ≤ h.place e.t.toNat ∧ h.key e.t.toNat ≤ gt0 dist e.f.toNat + e.c)
  root : 0 ≤ gt0 dist a ∨ (0 ≤ h.place a ∧ h.key a ≤ 0)
theorem DJ.low {es : List Edg} {r n a : Nat} (vg : VG es r n) (ha : a < n) {dist : List Int} {h : Hq} (o : DJ es n a dist h []) {v : Nat} {c : Int} (w : Wk es a v c) : 0 ≤ gt0 dist v ∨ ∃ y, y < n ∧ 0 ≤ h.place y ∧ h.key y ≤ c := by
  induction w with
  | nil => rcases o.root with h1 | ⟨h1, h2⟩
           · exact .inl h1
           · exact .inr ⟨a, ha, h1, h2⟩
  | @snoc e c w he ih =>
    have hc := vg.c _ he
    rcases ih with h1 | ⟨y, y1, y2, y3⟩
    · have hfl : e.f.toNat < n := w.lt vg ha
      have h2 := (o.fin _ hfl h1).2 _ w
      rcases o.rel e he h1 with h3 | h3 | ⟨h3, h4⟩
      · cases h3
      · exact .inl h3
      · exact .inr ⟨_, by have := vg.t _ he; omega, h3, by omega⟩
    · exact .inr ⟨y, y1, y2, by omega⟩
theorem key_set {h : Hq} {v : Nat} {k : Int} (hv : v < h.ky.length) {h' : Hq} (e : h'.ky = h.ky.set v k) (w : Nat) : h'.key w = if v = w then k else h.key w := by
  unfold Hq.key; rw [e, getD_set _ _ _ _ _ hv]
theorem DJ.pop {es : List Edg} {r n a : Nat} (vg : VG es r n) (ha : a < n) {dist : List Int} {h : Hq} (o : DJ es n a dist h []) (hne : 0 < h.it.length) :
    h.item 0 < n ∧ gt0 dist (h.item 0) < 0 ∧ 0 ≤ h.key (h.item 0) ∧ h.key (h.item 0) ≤ 65535 * cntP dist ∧ cntP (dist.set (h.item 0) (h.key (h.item 0))) = cntP dist + 1 ∧
    DJ es n a (dist.set (h.item 0) (h.key (h.item 0))) (dropH h (h.item 0)) (es.filter fun e => decide (e.f = (h.item 0 : Nat))) := by
  have hx : h.item 0 < n := by rw [← o.hl]; exact o.hg.hi.ok.item hne
  have hp : 0 ≤ h.place (h.item 0) := by rw [o.hg.hi.inv 0 hne]; decide
  have hmin := fun w hw hp => o.hg.min (w := w) (by rw [o.hl]; exact hw) hp
  obtain ⟨d1, d2, d3, d4, d5⟩ := o.hg.drop (by rw [o.hl]; exact hx) hp
  obtain ⟨q1, q2, q3⟩ := o.q _ hx hp
  have hk0 := q2.nn vg
  have hbest : ∀ c, Wk es a (h.item 0) c → h.key (h.item 0) ≤ c := fun c w => by
    rcases o.low vg ha w with h1 | ⟨y, y1, y2, y3⟩
    · omega
    · have := hmin y y1 y2; unfold le2 Hq.kk at this; simp only at this; omega
  unfold Hq.kk at hmin
  generalize h.item 0 = x at *
  generalize h.key x = k at *
  have hkey : ∀ w, (dropH h x).key w = h.key w := fun w => by unfold Hq.key; rw [d4]
  have hget : ∀ v, gt0 (dist.set x k) v = if x = v then k else gt0 dist v := fun v => getD_set _ _ _ _ _ (by rw [o.dl]; exact hx)
  have hcnt := cntP_set (l := dist) (k := k) (by rw [o.dl]; exact hx) q1 hk0
  refine ⟨hx, q1, hk0, q3, hcnt, d1, by rw [d3, o.hl], by rw [List.length_set, o.dl], fun v hv h0 => ?_, fun v hv h0 => ?_, fun v hv h0 => ?_, fun e he h0 => ?_, ?_⟩
  · rw [hget] at h0 ⊢
    by_cases e : x = v
    · subst e; rw [if_pos rfl]; exact ⟨q2, hbest⟩
    · rw [if_neg e] at h0 ⊢; exact o.fin v hv h0
  · rw [hget] at h0 ⊢
    by_cases e : x = v
    · rw [if_pos e] at h0; omega
    · rw [if_neg e] at h0 ⊢; exact o.neg v hv h0
  · obtain ⟨e1, e2⟩ := (d5 v).1 h0
    obtain ⟨s1, s2, s3⟩ := o.q v hv e2
    rw [hget, if_neg (fun e => e1 e.symm), hkey, hcnt]
    exact ⟨s1, s2, by omega⟩
  · rw [hget] at h0
    have hef := vg.f e he
    by_cases e1 : x = e.f.toNat
    · refine .inl (List.mem_filter.2 ⟨he, ?_⟩)
      rw [decide_eq_true_eq]; omega
    · rw [if_neg e1] at h0
      rcases o.rel e he h0 with h3 | h3 | ⟨h3, h4⟩
      · cases h3
      · refine .inr (.inl ?_)
        rw [hget]; split
        · exact hk0
        · exact h3
      · by_cases e2 : x = e.t.toNat
        · refine .inr (.inl ?_)
          rw [hget, if_pos e2]; exact hk0
        · refine .inr (.inr ⟨(d5 _).2 ⟨fun e => e2 e.symm, h3⟩, ?_⟩)
          rw [hkey, hget, if_neg e1]; exact h4
  · by_cases e2 : x = a
    · rw [hget, if_pos e2]; exact .inl hk0
    · rw [hget, if_neg e2, hkey]
      rcases o.root with h1 | ⟨h1, h2⟩
      · exact .inl h1
      · exact .inr ⟨(d5 _).2 ⟨fun e => e2 e.symm, h1⟩, h2⟩
theorem DJ.skip {es : List Edg} {r n a : Nat} (vg : VG es r n) {dist : List Int} {h : Hq} {e : Edg} {todo : List Edg} (o : DJ es n a dist h (e :: todo))
    (hc : ¬ (gt0 dist e.t.toNat < 0 ∧ (h.place e.t.toNat < 0 ∨ gt0 dist e.f.toNat + e.c < h.key e.t.toNat))) : DJ es n a dist h todo := by
  refine ⟨o.hg, o.hl, o.dl, o.fin, o.neg, o.q, fun e' he' h0 => ?_, o.root⟩
  rcases o.rel e' he' h0 with h3 | h3
  · rcases List.mem_cons.1 h3 with rfl | h3
    · refine .inr ?_
      by_cases h4 : 0 ≤ gt0 dist e'.t.toNat
      · exact .inl h4
      · refine .inr ⟨?_, ?_⟩
        · exact Int.not_lt.1 fun h5 => hc ⟨by omega, .inl h5⟩
        · exact Int.not_lt.1 fun h5 => hc ⟨by omega, .inr h5⟩
    · exact .inl h3
  · exact .inr h3
theorem DJ.put {es : List Edg} {r n a : Nat} (vg : VG es r n) {dist : List Int} {h : Hq} {e : Edg} {todo : List Edg} (he : e ∈ es) (o : DJ es n a dist h (e :: todo)) (hf : 0 ≤ gt0 dist e.f.toNat) (hb : gt0 dist e.f.toNat + 65535 ≤ 65535 * cntP dist)
    (hc : gt0 dist e.t.toNat < 0 ∧ (h.place e.t.toNat < 0 ∨ gt0 dist e.f.toNat + e.c < h.key e.t.toNat)) : DJ es n a dist (setH h e.t.toNat (gt0 dist e.f.toNat + e.c)) todo := by
  have hef := vg.f e he
  have het := vg.t e he
  have hec := vg.c e he
  have htl : e.t.toNat < h.pl.length := by rw [o.hl]; omega
  obtain ⟨s1, s2, s3, s4⟩ := o.hg.set htl (gt0 dist e.f.toNat + e.c)
  have hkey := key_set (by rw [← o.hg.hi.ok.len]; exact htl) s3
  have hw : Wk es a e.t.toNat (gt0 dist e.f.toNat + e.c) := .snoc (o.fin _ (by omega) hf).1 he
  refine ⟨s1, by rw [s2, o.hl], o.dl, o.fin, o.neg, fun v hv h0 => ?_, fun e' he' h0 => ?_, ?_⟩
  · rw [hkey]
    by_cases e1 : e.t.toNat = v
    · rw [if_pos e1]; subst e1; exact ⟨hc.1, hw, by omega⟩
    · rw [if_neg e1]
      rcases (s4 v).1 h0 with h1 | h1
      · exact absurd h1.symm e1
      · exact o.q v hv h1
  · rcases o.rel e' he' h0 with h3 | h3 | ⟨h3, h4⟩
    · rcases List.mem_cons.1 h3 with rfl | h3
      · refine .inr (.inr ⟨(s4 _).2 (.inl rfl), ?_⟩)
        rw [hkey, if_pos rfl]; exact Int.le_refl _
      · exact .inl h3
    · exact .inr (.inl h3)
    · refine .inr (.inr ⟨(s4 _).2 (.inr h3), ?_⟩)
      rw [hkey]
      by_cases e1 : e.t.toNat = e'.t.toNat
      · rw [if_pos e1]
        rcases hc.2 with h5 | h5
        · rw [← e1] at h3; omega
        · rw [← e1] at h4; omega
      · rw [if_neg e1]; exact h4
  · rcases o.root with h1 | ⟨h1, h2⟩
    · exact .inl h1
    · refine .inr ⟨(s4 _).2 (.inr h1), ?_⟩
      rw [hkey]
      by_cases e1 : e.t.toNat = a
      · rw [if_pos e1]
        rcases hc.2 with h5 | h5
        · rw [← e1] at h1; omega
        · rw [← e1] at h2; omega
      · rw [if_neg e1]; exact h2
theorem DJ.done {es : List Edg} {r n a : Nat} (vg : VG es r n) (ha : a < n) {dist : List Int} {h : Hq} (o : DJ es n a dist h []) (he : h.it = []) {v : Nat} (hv : v < n) : IsD es a v (gt0 dist v) := by
  by_cases h0 : 0 ≤ gt0 dist v
  · exact .inr (o.fin v hv h0)
  · refine .inl ⟨o.neg v hv (by omega), fun c w => ?_⟩
    rcases o.low vg ha w with h1 | ⟨y, y1, y2, y3⟩
    · exact h0 h1
    · have := (o.hg.hi.at_ y (by rw [o.hl]; exact y1) y2).1
      rw [he] at this; simp at this; omega
theorem checkI_vg {g : Gr} (h : checkI g = 0) : VG g.es g.r.toNat (g.r + g.n).toNat ∧ 0 ≤ g.r ∧ 0 ≤ g.n := by
  obtain ⟨⟨h1, h2, h3⟩, h4, h5⟩ := checkI_ok h
  have hal := chkL_alw _ _ h5
  have hn := fun e he => alwI_node (hal e he)
  have hx : ∀ e ∈ g.es, ¬ (e.f = e.t ∨ (g.r ≤ e.f ∧ g.r ≤ e.t) ∨ (g.r ≤ e.f ∧ e.c ≠ 0) ∨ (e.f < g.r ∧ (e.c < 1 ∨ 65535 < e.c))) := fun e he hh => by
    have h6 := hal e he
    unfold alwI at h6
    split at h6
    · cases h6
    · first | (rw [if_pos hh] at h6; cases h6) | cases h6
  have hasc : ∀ (l : List Edg) (p : Option Edg), chkL g p l = 0 → AscK l ∧ ∀ q, p = some q → ∀ e ∈ l, ltK q e := by
    intro l
    induction l with
    | nil => exact fun p _ => ⟨.nil, fun q _ e he => by cases he⟩
    | cons x l ih =>
      intro p hp
      simp only [chkL] at hp
      split at hp
      · next h7 => exact absurd hp h7
      · split at hp
        · cases hp
        · next h8 =>
          obtain ⟨i1, i2⟩ := ih _ hp
          refine ⟨List.pairwise_cons.2 ⟨fun y hy => i2 x rfl y hy, i1⟩, fun q hq e he => ?_⟩
          subst hq
          have h9 : ltK q x := by rw [← ltK_bef]; simpa [badP] using h8
          rcases List.mem_cons.1 he with rfl | he
          · exact h9
          · have := i2 x rfl e he; unfold ltK at *; omega
  refine ⟨⟨fun e he => ?_, fun e he => ?_, fun e he => ?_, fun e he hr => ?_, fun e he hr => ?_, fun e he hr => ?_, (hasc _ _ h5).1, by omega, by omega, h4⟩, h1, h2⟩
  · have := hn e he; omega
  · have := hn e he; omega
  · have := hx e he; omega
  · have := hx e he; omega
  · have := hx e he; omega
  · have := hx e he; omega
end Go.Pl
/- The engine, part 31: rows of slices that their cells own. -/
namespace Go.RT
def ownL (sz : Nat) (irs : List (List (List FV))) : List (List PV) := irs.map fun r => [PV.own sz r]
def fzL (sz : Nat) (irs : List (List (List FV))) : List (List FV) := irs.map fun r => [FV.vals sz r]
theorem renO_own (L : List Nat) (sz : Nat) (irs : List (List (List FV))) : renO L (.refs 1 (ownL sz irs)) = .refs 1 (ownL sz irs) := by
  simp only [renO, ownL, List.map_map]
  congr 1
theorem ltO_own (n sz : Nat) (irs : List (List (List FV))) : ltO n (.refs 1 (ownL sz irs)) := fun r hr => by
  obtain ⟨r0, _, rfl⟩ := List.mem_map.1 hr; rfl
theorem ent_own {L F : List Nat} {H : Hp} {id sz : Nat} {irs : List (List (List FV))} (h1 : Nat.blt id L.length = true) (h2 : F.contains (renI L id) = false) (h3 : hlook H (renI L id) = some (.refs 1 (ownL sz irs))) : Nat.blt id L.length = true ∧ F.contains (renI L id) = false ∧ EntO L F H (renI L id) (.refs 1 (ownL sz irs)) :=
  ent_same h1 h2 (by rw [renO_own]; exact h3) (ltO_own _ _ _)
theorem ownL_set (sz : Nat) (irs : List (List (List FV))) (i : Nat) (r : List (List FV)) : (ownL sz irs).set i [PV.own sz r] = ownL sz (irs.set i r) := List.map_set.symm
theorem ownL_get {sz : Nat} {irs : List (List (List FV))} {i : Nat} {r : List (List FV)} (h : irs[i]? = some r) : (ownL sz irs)[i]? = some [PV.own sz r] := by unfold ownL; rw [List.getElem?_map, h]; rfl
theorem ownL_rep (sz n : Nat) : List.replicate n [PV.own sz []] = ownL sz (List.replicate n []) := by unfold ownL; rw [List.map_replicate]
theorem fzL_get {sz : Nat} {irs : List (List (List FV))} {i : Nat} {r : List (List FV)} (h : irs[i]? = some r) : (fzL sz irs)[i]? = some [FV.vals sz r] := by unfold fzL; rw [List.getElem?_map, h]; rfl
theorem set_get {α : Type} (l : List α) (i : Nat) (x : α) (h : i < l.length) : (l.set i x)[i]? = some x := by rw [List.getElem?_set]; simp [h]
theorem ownL_len (sz : Nat) (irs : List (List (List FV))) : (ownL sz irs).length = irs.length := by simp [ownL]
end Go.RT
namespace Go.RT
theorem own_back {sz : Nat} {irs : List (List (List FV))} {v : Nat} {x y : List PV} {r : List (List FV)} : (((ownL sz irs).set v x).set v y).set v [PV.own sz r] = ownL sz (irs.set v r) := by rw [List.set_set, List.set_set, ownL_set]
theorem fzL_len (sz : Nat) (irs : List (List (List FV))) : (fzL sz irs).length = irs.length := by simp [fzL]
theorem take_all0 {α : Type} {l : List α} {k : Nat} (h : l.length = k) : (l.drop 0).take k = l := by subst h; simp
end Go.RT
namespace Go.Pl
open Go Go.RT
set_option linter.all false
def newH (n : Nat) : Hq := ⟨[], List.replicate n (-1), List.replicate n 0⟩
def fillN (n k : Nat) : List Int := List.replicate k (-1) ++ List.replicate (n - k) 0
theorem fillN_len (n k : Nat) (h : k ≤ n) : (fillN n k).length = n := by simp [fillN]; omega
theorem fillN_set (n k : Nat) (h : k < n) : (fillN n k).set k (-1) = fillN n (k + 1) := by
  unfold fillN
  rw [List.set_append_right _ _ (by simp), List.length_replicate, Nat.sub_self, show n - k = (n - (k + 1)) + 1 by omega, List.replicate_succ, List.set_cons_zero, List.replicate_succ', List.append_assoc]; rfl
theorem fillN_0 (n : Nat) : fillN n 0 = List.replicate n 0 := by simp [fillN]
theorem fillN_n (n : Nat) : fillN n n = List.replicate n (-1) := by simp [fillN]
theorem getD_rep {α : Type} (n v : Nat) (x d : α) (h : v < n) : (List.replicate n x).getD v d = x := by
  rw [List.getD_eq_getElem?_getD, List.getElem?_replicate, if_pos h]; rfl
theorem HG.new (n : Nat) : HG (newH n) :=
  ⟨⟨⟨by simp [newH], fun v h => by simp [newH] at h⟩, fun v hv h0 => by
    have : (newH n).place v = -1 := getD_rep _ _ _ _ (by simpa [newH] using hv)
    rw [this] at h0; omega, fun i hi => by simp [newH] at hi⟩, fun j _ hj => by simp [newH] at hj⟩
theorem DJ.start {es : List Edg} {r n a : Nat} (vg : VG es r n) (ha : a < n) : DJ es n a (List.replicate n (-1)) (setH (newH n) a 0) [] ∧ cntP (List.replicate n (-1)) = 0 := by
  obtain ⟨s1, s2, s3, s4⟩ := (HG.new n).set (v := a) (by simpa [newH] using ha) 0
  have hg : ∀ v, v < n → gt0 (List.replicate n (-1)) v = -1 := fun v hv => getD_rep _ _ _ _ hv
  have hkey := key_set (h := newH n) (v := a) (by simpa [newH] using ha) s3
  have hp : ∀ v, v < n → (newH n).place v = -1 := fun v hv => getD_rep _ _ _ _ hv
  have hc : cntP (List.replicate n (-1)) = 0 := by unfold cntP; rw [List.countP_replicate]; simp
  refine ⟨⟨s1, by rw [s2]; simp [newH], by simp, fun v hv h0 => ?_, fun v hv _ => hg v hv, fun v hv h0 => ?_, fun e he h0 => ?_, .inr ⟨(s4 a).2 (.inl rfl), ?_⟩⟩, hc⟩
  · rw [hg v hv] at h0; omega
  · rw [hg v hv, hc]
    rcases (s4 v).1 h0 with rfl | h1
    · rw [hkey, if_pos rfl]; exact ⟨by omega, .nil, by omega⟩
    · rw [hp v hv] at h1; omega
  · have := vg.f e he
    rw [hg _ (by omega)] at h0; omega
  · rw [hkey, if_pos rfl]; exact Int.le_refl _
/- rows of own slices -/
theorem rng_len {β : Type} (n : Nat) (f : Nat → β) : ((List.range n).map f).length = n := by simp
theorem rng_get {β : Type} (n : Nat) (f : Nat → β) (v : Nat) (h : v < n) : ((List.range n).map f)[v]? = some (f v) := by simp [h]
theorem rng_set {β : Type} (n : Nat) (f f' : Nat → β) (v : Nat) (x : β) (hx : f' v = x) (h : ∀ w, w ≠ v → f' w = f w) : ((List.range n).map f).set v x = (List.range n).map f' := by
  apply List.ext_getElem?
  intro i
  rw [List.getElem?_set]
  by_cases e : v = i
  · subst e
    by_cases hv : v < n
    · simp [hv, hx]
    · simp [hv]
  · rw [if_neg e]
    by_cases hi : i < n
    · simp [hi, h i (fun e2 => e e2.symm)]
    · simp [hi]
theorem rng_const {β : Type} (n : Nat) (x : β) : List.replicate n x = (List.range n).map fun _ => x := by
  apply List.ext_getElem?
  intro i
  by_cases hi : i < n
  · simp [hi]
  · simp [hi]
def outE (es : List Edg) (v : Nat) : List Edg := es.filter fun e => decide (e.f = (v : Nat))
def rowsE (es : List Edg) (n : Nat) : List (List (List FV)) := (List.range n).map fun v => (outE es v).map encE
theorem outE_succ {es : List Edg} {i : Nat} (h : i < es.length) (v : Nat) : outE (es.take (i + 1)) v = outE (es.take i) v ++ if es[i].f = (v : Nat) then [es[i]] else [] := by
  unfold outE
  rw [← List.take_append_getElem h, List.filter_append]
  congr 1
  by_cases e : es[i].f = (v : Nat)
  · simp [e]
  · simp [e]
theorem rowsE_succ {es : List Edg} {i n : Nat} (h : i < es.length) (h0 : 0 ≤ es[i].f) : (rowsE (es.take i) n).set es[i].f.toNat ((outE (es.take i) es[i].f.toNat).map encE ++ [encE es[i]]) = rowsE (es.take (i + 1)) n := by
  refine rng_set n _ _ _ _ ?_ fun w hw => ?_
  · rw [outE_succ h, if_pos (by omega), List.map_append]; rfl
  · rw [outE_succ h, if_neg (by omega), List.append_nil]
theorem rowsE_get (es : List Edg) {n v : Nat} (h : v < n) : (rowsE es n)[v]? = some ((outE es v).map encE) := rng_get n _ v h
theorem rowsE_nil (n : Nat) : rowsE [] n = List.replicate n [] := (rng_const n _).symm
theorem rowsE_len (es : List Edg) (n : Nat) : (rowsE es n).length = n := rng_len n _
end Go.Pl
namespace Go.Proofs.Ytgbfkpcigipniaa
open Go Go.RT Go.Proofs Go.Pl
set_option linter.all false
set_option maxRecDepth 20000
abbrev HN (n k : Nat) : Hp := [(0, some (.refs 3 [[.sl 1 1 0 0, .sl 2 1 0 n, .sl 3 1 0 n]])), (1, OT []), (2, OI (fillN n k)), (3, OI (List.replicate n 0))]
theorem new_c (n : Nat) (hn : n ≤ 65536) : Meets Try.prog 47 [IV .i64 n] 0 [] (.ptr 0 3 0 0) (HH (newH n)) 4 := by
  refine Meets.intro Try.func47 rfl (Nat.le_of_ble_eq_true rfl) fun C hC => ?_
  simp only [List.map, argEnv, Nat.reduceAdd]
  refine nK2 ?_
  refine s_reg rfl ?_
  first | refine Run.pure (dd := some 2) rfl rfl (op_assign rfl (Opd.const _)) ?_ | refine Run.pure (dd := some 2) rfl rfl (op_junk (.inr rfl)) ?_
  refine Run.nil (FinR.mk ?_)
  refine nK2 ?_
  refine s_reg rfl ?_
  first | refine Run.pure (dd := some 5) rfl rfl (op_move rfl (Opd.tmp _ _ rfl)) ?_ | refine Run.pure (dd := some 5) rfl rfl (op_junk (.inl rfl)) ?_
  refine Run.pure (dd := some 6) rfl rfl (op_max rfl (Opd.tmp _ _ rfl) (Opd.const _)) ?_
  refine Run.pure (dd := some 7) rfl rfl (op_min rfl (Opd.tmp _ _ rfl) (Opd.const _)) ?_
  first | refine Run.pure (dd := some 0) rfl rfl (op_assign rfl (Opd.tmp _ _ rfl)) ?_ | refine Run.pure (dd := some 0) rfl rfl (op_junk (.inr rfl)) ?_
  refine Run.nil (FinR.mk ?_)
  refine nK2 ?_
  refine Next.weak [] [] (by rfl) (keepsN hC _ rfl) (G' := [(0, IV .i64 n)]) (H' := []) (by exact ⟨⟨_, rfl, .inl ⟨ivEq (by omega), rfl⟩⟩, trivial⟩) trivial (fun _ h => by simp at h) ?_
  refine nK2 ?_
  refine draw_tree2 [(3, .ptr 0 3 0 0)] (HN n 0) 4 mixed (fun hK => ?_) ?_
  · skip
    refine AnyN.two 0 2 (by kernel_rfl) (StepN.mk rfl (op_move rfl (Opd.tmp _ _ rfl) _ _) rfl rfl (by kernel_rfl) ?_) (StepN.mk rfl (op_move rfl (Opd.tmp _ _ rfl) _ _) rfl rfl (by kernel_rfl) ?_)
    · skip
      refine AnyN.two 1 2 (by kernel_rfl) (StepN.mk rfl (op_make (l := n) (c := n) rfl (Opd.tmp _ _ rfl) (Opd.tmp _ _ rfl) rfl rfl rfl rfl (by intro _; refine ⟨rfl, rfl, ?_⟩; omega)) rfl rfl (by kernel_rfl) ?_) (StepN.mk rfl (op_move rfl (Opd.tmp _ _ rfl) _ _) rfl rfl (by kernel_rfl) ?_)
      · skip
        refine AnyN.one 2 (by kernel_rfl) (StepN.mk rfl (op_move rfl (Opd.tmp _ _ rfl) _ _) rfl rfl (by kernel_rfl) ?_)
        refine AnyN.one 3 (by kernel_rfl) (StepN.mk rfl (op_make (l := n) (c := n) rfl (Opd.tmp _ _ rfl) (Opd.tmp _ _ rfl) rfl rfl rfl rfl (by intro _; refine ⟨rfl, rfl, ?_⟩; omega)) rfl rfl (by kernel_rfl) ?_)
        refine AnyN.one 4 (by kernel_rfl) (StepN.mk rfl (op_buildP rfl rfl rfl rfl (FillP.cons _ _ _ _ _ _ _ _ _ _ (by rfl) (Opd.tmp _ _ rfl) tP (by rfl) tR (FillP.cons _ _ _ _ _ _ _ _ _ _ (by rfl) (Opd.tmp _ _ rfl) tP (by rfl) tR (FillP.nil _))) _ _) rfl rfl (by kernel_rfl) ?_)
        refine AnyN.one 5 (by kernel_rfl) (StepN.mk rfl (op_box_refs rfl (Opd.tmp _ _ rfl) tP rfl) rfl rfl (by kernel_rfl) ?_)
        refine AnyN.one 6 (by kernel_rfl) (StepN.mk rfl (op_assign rfl (Opd.tmp _ _ rfl) _ _) rfl rfl (by kernel_rfl) ?_)
        refine AnyN.nil rfl ?_
        refine Next.adoptCell 2 0 0 1 rfl rfl rfl rfl (Next.weak [2, 3, 0, 1] [] (by rfl) (keepsN hC _ rfl) (by repeat (first | exact trivial | refine ⟨⟨_, rfl, .inl ⟨rfl, rfl⟩⟩, ?_⟩ | refine ⟨⟨_, rfl, .inl ⟨slEq rfl tN, rfl⟩⟩, ?_⟩ | refine ⟨⟨_, rfl, .inl ⟨ivEq tX, rfl⟩⟩, ?_⟩)) (by exact ⟨ent_same rfl rfl rfl tL, ⟨ent_same rfl rfl rfl tL, ⟨ent_same rfl rfl (flEq rfl (by rw [fillN_0, List.map_replicate]; rfl)) trivial, ⟨ent_same rfl rfl (flEq rfl (by rw [List.map_replicate]; rfl)) trivial, trivial⟩⟩⟩⟩) (fun _ h => by simp at h) hK)
      · skip
        refine AnyN.two 1 3 (by kernel_rfl) (StepN.mk rfl (op_make (l := n) (c := n) rfl (Opd.tmp _ _ rfl) (Opd.tmp _ _ rfl) rfl rfl rfl rfl (by intro _; refine ⟨rfl, rfl, ?_⟩; omega)) rfl rfl (by kernel_rfl) ?_) (StepN.mk rfl (op_make (l := n) (c := n) rfl (Opd.tmp _ _ rfl) (Opd.tmp _ _ rfl) rfl rfl rfl rfl (by intro _; refine ⟨rfl, rfl, ?_⟩; omega)) rfl rfl (by kernel_rfl) ?_)
        · skip
          refine AnyN.one 3 (by kernel_rfl) (StepN.mk rfl (op_make (l := n) (c := n) rfl (Opd.tmp _ _ rfl) (Opd.tmp _ _ rfl) rfl rfl rfl rfl (by intro _; refine ⟨rfl, rfl, ?_⟩; omega)) rfl rfl (by kernel_rfl) ?_)
          refine AnyN.one 4 (by kernel_rfl) (StepN.mk rfl (op_buildP rfl rfl rfl rfl (FillP.cons _ _ _ _ _ _ _ _ _ _ (by rfl) (Opd.tmp _ _ rfl) tP (by rfl) tR (FillP.cons _ _ _ _ _ _ _ _ _ _ (by rfl) (Opd.tmp _ _ rfl) tP (by rfl) tR (FillP.nil _))) _ _) rfl rfl (by kernel_rfl) ?_)
          refine AnyN.one 5 (by kernel_rfl) (StepN.mk rfl (op_box_refs rfl (Opd.tmp _ _ rfl) tP rfl) rfl rfl (by kernel_rfl) ?_)
          refine AnyN.one 6 (by kernel_rfl) (StepN.mk rfl (op_assign rfl (Opd.tmp _ _ rfl) _ _) rfl rfl (by kernel_rfl) ?_)
          refine AnyN.nil rfl ?_
          refine Next.adoptCell 2 0 0 1 rfl rfl rfl rfl (Next.weak [2, 3, 0, 1] [] (by rfl) (keepsN hC _ rfl) (by repeat (first | exact trivial | refine ⟨⟨_, rfl, .inl ⟨rfl, rfl⟩⟩, ?_⟩ | refine ⟨⟨_, rfl, .inl ⟨slEq rfl tN, rfl⟩⟩, ?_⟩ | refine ⟨⟨_, rfl, .inl ⟨ivEq tX, rfl⟩⟩, ?_⟩)) (by exact ⟨ent_same rfl rfl rfl tL, ⟨ent_same rfl rfl rfl tL, ⟨ent_same rfl rfl (flEq rfl (by rw [fillN_0, List.map_replicate]; rfl)) trivial, ⟨ent_same rfl rfl (flEq rfl (by rw [List.map_replicate]; rfl)) trivial, trivial⟩⟩⟩⟩) (fun _ h => by simp at h) hK)
        · skip
          refine AnyN.one 1 (by kernel_rfl) (StepN.mk rfl (op_make (l := n) (c := n) rfl (Opd.tmp _ _ rfl) (Opd.tmp _ _ rfl) rfl rfl rfl rfl (by intro _; refine ⟨rfl, rfl, ?_⟩; omega)) rfl rfl (by kernel_rfl) ?_)
          refine AnyN.one 4 (by kernel_rfl) (StepN.mk rfl (op_buildP rfl rfl rfl rfl (FillP.cons _ _ _ _ _ _ _ _ _ _ (by rfl) (Opd.tmp _ _ rfl) tP (by rfl) tR (FillP.cons _ _ _ _ _ _ _ _ _ _ (by rfl) (Opd.tmp _ _ rfl) tP (by rfl) tR (FillP.nil _))) _ _) rfl rfl (by kernel_rfl) ?_)
          refine AnyN.one 5 (by kernel_rfl) (StepN.mk rfl (op_box_refs rfl (Opd.tmp _ _ rfl) tP rfl) rfl rfl (by kernel_rfl) ?_)
          refine AnyN.one 6 (by kernel_rfl) (StepN.mk rfl (op_assign rfl (Opd.tmp _ _ rfl) _ _) rfl rfl (by kernel_rfl) ?_)
          refine AnyN.nil rfl ?_
          refine Next.adoptCell 2 0 0 1 rfl rfl rfl rfl (Next.weak [2, 3, 1, 0] [] (by rfl) (keepsN hC _ rfl) (by repeat (first | exact trivial | refine ⟨⟨_, rfl, .inl ⟨rfl, rfl⟩⟩, ?_⟩ | refine ⟨⟨_, rfl, .inl ⟨slEq rfl tN, rfl⟩⟩, ?_⟩ | refine ⟨⟨_, rfl, .inl ⟨ivEq tX, rfl⟩⟩, ?_⟩)) (by exact ⟨ent_same rfl rfl rfl tL, ⟨ent_same rfl rfl rfl tL, ⟨ent_same rfl rfl (flEq rfl (by rw [fillN_0, List.map_replicate]; rfl)) trivial, ⟨ent_same rfl rfl (flEq rfl (by rw [List.map_replicate]; rfl)) trivial, trivial⟩⟩⟩⟩) (fun _ h => by simp at h) hK)
    · skip
      refine AnyN.two 0 3 (by kernel_rfl) (StepN.mk rfl (op_move rfl (Opd.tmp _ _ rfl) _ _) rfl rfl (by kernel_rfl) ?_) (StepN.mk rfl (op_make (l := n) (c := n) rfl (Opd.tmp _ _ rfl) (Opd.tmp _ _ rfl) rfl rfl rfl rfl (by intro _; refine ⟨rfl, rfl, ?_⟩; omega)) rfl rfl (by kernel_rfl) ?_)
      · skip
        refine AnyN.two 1 3 (by kernel_rfl) (StepN.mk rfl (op_make (l := n) (c := n) rfl (Opd.tmp _ _ rfl) (Opd.tmp _ _ rfl) rfl rfl rfl rfl (by intro _; refine ⟨rfl, rfl, ?_⟩; omega)) rfl rfl (by kernel_rfl) ?_) (StepN.mk rfl (op_make (l := n) (c := n) rfl (Opd.tmp _ _ rfl) (Opd.tmp _ _ rfl) rfl rfl rfl rfl (by intro _; refine ⟨rfl, rfl, ?_⟩; omega)) rfl rfl (by kernel_rfl) ?_)
        · skip
          refine AnyN.one 3 (by kernel_rfl) (StepN.mk rfl (op_make (l := n) (c := n) rfl (Opd.tmp _ _ rfl) (Opd.tmp _ _ rfl) rfl rfl rfl rfl (by intro _; refine ⟨rfl, rfl, ?_⟩; omega)) rfl rfl (by kernel_rfl) ?_)
          refine AnyN.one 4 (by kernel_rfl) (StepN.mk rfl (op_buildP rfl rfl rfl rfl (FillP.cons _ _ _ _ _ _ _ _ _ _ (by rfl) (Opd.tmp _ _ rfl) tP (by rfl) tR (FillP.cons _ _ _ _ _ _ _ _ _ _ (by rfl) (Opd.tmp _ _ rfl) tP (by rfl) tR (FillP.nil _))) _ _) rfl rfl (by kernel_rfl) ?_)
          refine AnyN.one 5 (by kernel_rfl) (StepN.mk rfl (op_box_refs rfl (Opd.tmp _ _ rfl) tP rfl) rfl rfl (by kernel_rfl) ?_)
          refine AnyN.one 6 (by kernel_rfl) (StepN.mk rfl (op_assign rfl (Opd.tmp _ _ rfl) _ _) rfl rfl (by kernel_rfl) ?_)
          refine AnyN.nil rfl ?_
          refine Next.adoptCell 2 0 0 1 rfl rfl rfl rfl (Next.weak [2, 3, 0, 1] [] (by rfl) (keepsN hC _ rfl) (by repeat (first | exact trivial | refine ⟨⟨_, rfl, .inl ⟨rfl, rfl⟩⟩, ?_⟩ | refine ⟨⟨_, rfl, .inl ⟨slEq rfl tN, rfl⟩⟩, ?_⟩ | refine ⟨⟨_, rfl, .inl ⟨ivEq tX, rfl⟩⟩, ?_⟩)) (by exact ⟨ent_same rfl rfl rfl tL, ⟨ent_same rfl rfl rfl tL, ⟨ent_same rfl rfl (flEq rfl (by rw [fillN_0, List.map_replicate]; rfl)) trivial, ⟨ent_same rfl rfl (flEq rfl (by rw [List.map_replicate]; rfl)) trivial, trivial⟩⟩⟩⟩) (fun _ h => by simp at h) hK)
        · skip
          refine AnyN.one 1 (by kernel_rfl) (StepN.mk rfl (op_make (l := n) (c := n) rfl (Opd.tmp _ _ rfl) (Opd.tmp _ _ rfl) rfl rfl rfl rfl (by intro _; refine ⟨rfl, rfl, ?_⟩; omega)) rfl rfl (by kernel_rfl) ?_)
          refine AnyN.one 4 (by kernel_rfl) (StepN.mk rfl (op_buildP rfl rfl rfl rfl (FillP.cons _ _ _ _ _ _ _ _ _ _ (by rfl) (Opd.tmp _ _ rfl) tP (by rfl) tR (FillP.cons _ _ _ _ _ _ _ _ _ _ (by rfl) (Opd.tmp _ _ rfl) tP (by rfl) tR (FillP.nil _))) _ _) rfl rfl (by kernel_rfl) ?_)
          refine AnyN.one 5 (by kernel_rfl) (StepN.mk rfl (op_box_refs rfl (Opd.tmp _ _ rfl) tP rfl) rfl rfl (by kernel_rfl) ?_)
          refine AnyN.one 6 (by kernel_rfl) (StepN.mk rfl (op_assign rfl (Opd.tmp _ _ rfl) _ _) rfl rfl (by kernel_rfl) ?_)
          refine AnyN.nil rfl ?_
          refine Next.adoptCell 2 0 0 1 rfl rfl rfl rfl (Next.weak [2, 3, 1, 0] [] (by rfl) (keepsN hC _ rfl) (by repeat (first | exact trivial | refine ⟨⟨_, rfl, .inl ⟨rfl, rfl⟩⟩, ?_⟩ | refine ⟨⟨_, rfl, .inl ⟨slEq rfl tN, rfl⟩⟩, ?_⟩ | refine ⟨⟨_, rfl, .inl ⟨ivEq tX, rfl⟩⟩, ?_⟩)) (by exact ⟨ent_same rfl rfl rfl tL, ⟨ent_same rfl rfl rfl tL, ⟨ent_same rfl rfl (flEq rfl (by rw [fillN_0, List.map_replicate]; rfl)) trivial, ⟨ent_same rfl rfl (flEq rfl (by rw [List.map_replicate]; rfl)) trivial, trivial⟩⟩⟩⟩) (fun _ h => by simp at h) hK)
      · skip
        refine AnyN.one 0 (by kernel_rfl) (StepN.mk rfl (op_move rfl (Opd.tmp _ _ rfl) _ _) rfl rfl (by kernel_rfl) ?_)
        refine AnyN.one 1 (by kernel_rfl) (StepN.mk rfl (op_make (l := n) (c := n) rfl (Opd.tmp _ _ rfl) (Opd.tmp _ _ rfl) rfl rfl rfl rfl (by intro _; refine ⟨rfl, rfl, ?_⟩; omega)) rfl rfl (by kernel_rfl) ?_)
        refine AnyN.one 4 (by kernel_rfl) (StepN.mk rfl (op_buildP rfl rfl rfl rfl (FillP.cons _ _ _ _ _ _ _ _ _ _ (by rfl) (Opd.tmp _ _ rfl) tP (by rfl) tR (FillP.cons _ _ _ _ _ _ _ _ _ _ (by rfl) (Opd.tmp _ _ rfl) tP (by rfl) tR (FillP.nil _))) _ _) rfl rfl (by kernel_rfl) ?_)
        refine AnyN.one 5 (by kernel_rfl) (StepN.mk rfl (op_box_refs rfl (Opd.tmp _ _ rfl) tP rfl) rfl rfl (by kernel_rfl) ?_)
        refine AnyN.one 6 (by kernel_rfl) (StepN.mk rfl (op_assign rfl (Opd.tmp _ _ rfl) _ _) rfl rfl (by kernel_rfl) ?_)
        refine AnyN.nil rfl ?_
        refine Next.adoptCell 2 0 0 1 rfl rfl rfl rfl (Next.weak [2, 3, 1, 0] [] (by rfl) (keepsN hC _ rfl) (by repeat (first | exact trivial | refine ⟨⟨_, rfl, .inl ⟨rfl, rfl⟩⟩, ?_⟩ | refine ⟨⟨_, rfl, .inl ⟨slEq rfl tN, rfl⟩⟩, ?_⟩ | refine ⟨⟨_, rfl, .inl ⟨ivEq tX, rfl⟩⟩, ?_⟩)) (by exact ⟨ent_same rfl rfl rfl tL, ⟨ent_same rfl rfl rfl tL, ⟨ent_same rfl rfl (flEq rfl (by rw [fillN_0, List.map_replicate]; rfl)) trivial, ⟨ent_same rfl rfl (flEq rfl (by rw [List.map_replicate]; rfl)) trivial, trivial⟩⟩⟩⟩) (fun _ h => by simp at h) hK)
  refine nK2 ?_
  refine s_reg rfl ?_
  first | refine Run.pure (dd := some 14) rfl rfl (op_move rfl (Opd.tmp _ _ rfl)) ?_ | refine Run.pure (dd := some 14) rfl rfl (op_junk (.inl rfl)) ?_
  first | refine Run.pure (dd := some 15) rfl rfl (op_nilck_ptr rfl (Opd.tmp _ _ rfl)) ?_ | refine Run.pure (dd := some 15) rfl rfl (op_nilck_fz rfl (Opd.tmp _ _ rfl)) ?_ | refine Run.pure (dd := some 15) rfl rfl (op_nilck_clo rfl (Opd.tmp _ _ rfl)) ?_ | refine Run.pure (dd := some 15) rfl rfl (op_nilck_fclo rfl (Opd.tmp _ _ rfl)) ?_
  first | refine Run.pure (dd := some 16) rfl rfl (op_fld_ptr (by decide) rfl (Opd.tmp _ _ rfl)) ?_ | refine Run.pure (dd := some 16) rfl rfl (op_fld_fz (by decide) rfl (Opd.tmp _ _ rfl) tR) ?_
  first | refine Run.load (dd := some 17) rfl rfl (op_load1_flat rfl (Opd.tmp _ _ rfl) tH rfl) ?_ | refine Run.pure (dd := some 17) rfl rfl (op_load1_fz rfl (Opd.tmp _ _ rfl) rfl) ?_ | refine Run.load (dd := some 17) rfl rfl (op_load1_refs rfl (Opd.tmp _ _ rfl) tH rfl) ?_
  first | refine Run.pure (dd := some 18) rfl rfl (op_len_fz rfl (by first | exact Opd.tmp _ _ rfl | exact Opd.nil _ _ (Opd.tmp _ _ rfl)) (by first | exact List.length_map _ | rfl)) ?_ | refine Run.pure (dd := some 18) rfl rfl (op_len_sl rfl (Opd.tmp _ _ rfl)) ?_
  first | refine Run.pure (dd := some 19) rfl rfl (op_move rfl (Opd.const _)) ?_ | refine Run.pure (dd := some 19) rfl rfl (op_junk (.inl rfl)) ?_
  refine Run.nil (FinR.mk ?_)
  refine nK2 ?_
  refine n_loop (ι := Nat) (fun k => ([(3, .ptr 0 3 0 0), (18, IV .i64 n), (19, IV .i64 k)], HN n k, 4)) (fun k => k ≤ n) (fun k => n - k) 0 (Nat.zero_le _) ?_ ?_
  · refine Next.weak [0, 1, 2, 3] [] (by rfl) (keepsN hC _ rfl) (by repeat (first | exact trivial | refine ⟨⟨_, rfl, .inl ⟨rfl, rfl⟩⟩, ?_⟩ | refine ⟨⟨_, rfl, .inl ⟨slEq rfl tN, rfl⟩⟩, ?_⟩ | refine ⟨⟨_, rfl, .inl ⟨ivEq tX, rfl⟩⟩, ?_⟩)) (by exact ⟨ent_same rfl rfl rfl tL, ⟨ent_same rfl rfl rfl tL, ⟨ent_same rfl rfl rfl tL, ⟨ent_same rfl rfl rfl tL, trivial⟩⟩⟩⟩) (fun _ h => by simp at h) rel_intro
  · intro k hk K hK
    try dsimp only at hk ⊢
    refine nK2 ?_
    refine s_reg rfl ?_
    refine Run.pure (dd := some 20) rfl rfl (op_lss rfl (Opd.tmp _ _ rfl) (Opd.tmp _ _ rfl)) ?_
    refine Run.nil (FinR.mk ?_)
    refine nK2 ?_
    refine n_cond _ rfl (fun hb => ?_) (fun hb => ?_)
    · have hlt : k < n := by simpa using hb
      have hrow := row_of encN (fillN n k) k 0 (by rw [fillN_len _ _ hk]; exact hlt)
      refine nK2 ?_
      refine s_reg rfl ?_
      first | refine Run.pure (dd := some 21) rfl rfl (op_move rfl (Opd.tmp _ _ rfl)) ?_ | refine Run.pure (dd := some 21) rfl rfl (op_junk (.inl rfl)) ?_
      first | refine Run.pure (dd := some 4) rfl rfl (op_assign rfl (Opd.tmp _ _ rfl)) ?_ | refine Run.pure (dd := some 4) rfl rfl (op_junk (.inr rfl)) ?_
      refine Run.nil (FinR.mk ?_)
      refine nK2 ?_
      refine s_reg rfl ?_
      first | refine Run.pure (dd := some 22) rfl rfl (op_move rfl (Opd.tmp _ _ rfl)) ?_ | refine Run.pure (dd := some 22) rfl rfl (op_junk (.inl rfl)) ?_
      first | refine Run.pure (dd := some 23) rfl rfl (op_nilck_ptr rfl (Opd.tmp _ _ rfl)) ?_ | refine Run.pure (dd := some 23) rfl rfl (op_nilck_fz rfl (Opd.tmp _ _ rfl)) ?_ | refine Run.pure (dd := some 23) rfl rfl (op_nilck_clo rfl (Opd.tmp _ _ rfl)) ?_ | refine Run.pure (dd := some 23) rfl rfl (op_nilck_fclo rfl (Opd.tmp _ _ rfl)) ?_
      first | refine Run.pure (dd := some 24) rfl rfl (op_fld_ptr (by decide) rfl (Opd.tmp _ _ rfl)) ?_ | refine Run.pure (dd := some 24) rfl rfl (op_fld_fz (by decide) rfl (Opd.tmp _ _ rfl) tR) ?_
      first | refine Run.load (dd := some 25) rfl rfl (op_load1_flat rfl (Opd.tmp _ _ rfl) tH rfl) ?_ | refine Run.pure (dd := some 25) rfl rfl (op_load1_fz rfl (Opd.tmp _ _ rfl) rfl) ?_ | refine Run.load (dd := some 25) rfl rfl (op_load1_refs rfl (Opd.tmp _ _ rfl) tH rfl) ?_
      first | refine Run.pure (dd := some 26) rfl rfl (op_move rfl (Opd.tmp _ _ rfl)) ?_ | refine Run.pure (dd := some 26) rfl rfl (op_junk (.inl rfl)) ?_
      refine Run.pure (dd := some 27) rfl rfl (op_idx_sl0 k rfl (Opd.tmp _ _ rfl) (Opd.tmp _ _ rfl) (by intro _; exact ⟨rfl, hlt⟩)) ?_
      refine Run.eff (dd := none) rfl rfl (op_store_flat rfl (Opd.tmp _ _ rfl) (Opd.const _) tC rfl rfl hrow tS) ?_
      refine Run.nil (FinR.mk ?_)
      refine nK2 ?_
      refine s_reg rfl ?_
      refine Run.pure (dd := some 28) rfl rfl (op_add rfl (Opd.tmp _ _ rfl) (Opd.const _) tI) ?_
      first | refine Run.pure (dd := some 19) rfl rfl (op_move rfl (Opd.tmp _ _ rfl)) ?_ | refine Run.pure (dd := some 19) rfl rfl (op_junk (.inl rfl)) ?_
      refine Run.nil (FinR.mk ?_)
      refine nK2 ?_
      refine Next.weak [0, 1, 2, 3] [] (by rfl) (keepsN hC _ rfl) (by repeat (first | exact trivial | refine ⟨⟨_, rfl, .inl ⟨rfl, rfl⟩⟩, ?_⟩ | refine ⟨⟨_, rfl, .inl ⟨slEq rfl tN, rfl⟩⟩, ?_⟩ | refine ⟨⟨_, rfl, .inl ⟨ivEq tX, rfl⟩⟩, ?_⟩)) (by exact ⟨ent_same rfl rfl rfl tL, ⟨ent_same rfl rfl rfl tL, ⟨ent_same rfl rfl (flEq rfl (by rw [← fillN_set n k hlt, List.map_set]; rfl)) trivial, ⟨ent_same rfl rfl rfl tL, trivial⟩⟩⟩⟩) (fun _ h => by simp at h) (hK (k + 1) hlt (by omega))
    · have hge : k = n := by simp at hb; omega
      subst hge
      refine nK2 ?_
      refine s_reg rfl ?_
      first | refine Run.pure (dd := some 29) rfl rfl (op_move rfl (Opd.tmp _ _ rfl)) ?_ | refine Run.pure (dd := some 29) rfl rfl (op_junk (.inl rfl)) ?_
      first | refine Run.pure (dd := some 2) rfl rfl (op_assign rfl (Opd.tmp _ _ rfl)) ?_ | refine Run.pure (dd := some 2) rfl rfl (op_junk (.inr rfl)) ?_
      refine Run.nil (FinR.mk ?_)
      refine nK2 ?_
      refine Next.weak [0, 1, 2, 3] [] (by rfl) (keepsN hC _ rfl) (G' := [(2, .ptr 0 3 0 0)]) (H' := HH (newH k)) (by repeat (first | exact trivial | refine ⟨⟨_, rfl, .inl ⟨rfl, rfl⟩⟩, ?_⟩ | refine ⟨⟨_, rfl, .inl ⟨slEq rfl tN, rfl⟩⟩, ?_⟩ | refine ⟨⟨_, rfl, .inl ⟨ivEq tX, rfl⟩⟩, ?_⟩)) (by exact ⟨ent_same rfl rfl (by simp only [newH, List.length_replicate]; rfl) tL, ⟨ent_same rfl rfl rfl trivial, ⟨ent_same rfl rfl (flEq rfl (by rw [fillN_n]; rfl)) trivial, ⟨ent_same rfl rfl rfl trivial, trivial⟩⟩⟩⟩) (fun _ h => by simp at h) ?_
      exact n_out1 rfl (by rfl) rfl rfl
end Go.Proofs.Ytgbfkpcigipniaa
namespace Go.Proofs.Ytgbfkpcigipniaa
open Go Go.RT Go.Proofs Go.Pl
set_option linter.all false
set_option maxRecDepth 20000
set_option maxHeartbeats 2000000
abbrev HD (h : Hq) : Hp := [(1, some (.refs 3 [[.sl 2 1 0 h.it.length, .sl 3 1 0 h.pl.length, .sl 4 1 0 h.ky.length]])), (2, OT h.it), (3, OI h.pl), (4, OI h.ky)]
abbrev HDS (d : List Int) (h : Hq) : Hp := (0, OI d) :: HD h
theorem set_i (h : Hq) (o : HI h) (b : Int) (v : Nat) (k : Int) (e : b = v) (hv : v < h.pl.length) (hm : h.it.length ≤ 1999999) : Meets Try.prog 48 [.ptr 0 3 0 0, IV .i64 b, IV .i64 k] 4 (HH h) (BV true) (HX (setH h v k)) 5 := by subst e; exact set_c h o v k hv hm
theorem key_i (h : Hq) (o : h.Ok) (b : Int) (v : Nat) (e : b = v) (hv : v < h.pl.length) : Meets Try.prog 50 [.ptr 0 3 0 0, IV .i64 b] 4 (HH h) (.fz (.tup [If .i64 (if 0 ≤ h.place v then h.key v else 0), Bf (decide (0 ≤ h.place v))])) (HH h) 4 := by subst e; exact key_c h o v hv
theorem dist_c (g : Gr) (a : Nat) (d : List Int) (hg : checkI g = 0) (hok : okG g) (ha : a < (g.r + g.n).toNat) (hd : d.length = (g.r + g.n).toNat) (hD : ∀ v, v < (g.r + g.n).toNat → IsD g.es a v (gt0 d v)) : Pure Try.prog 28 [.agg (encG g), If .i64 a] (VI d) := by
  obtain ⟨vg, hr0, hn0⟩ := checkI_vg hg
  have hn := vg.n128
  have hel := vg.e1024
  have hrn : g.r + g.n = ((g.r + g.n).toNat : Int) := by omega
  generalize hN : (g.r + g.n).toNat = n at *
  refine Meets.intro Try.func28 rfl (Nat.le_of_ble_eq_true rfl) fun C hC => ?_
  simp only [List.map, argEnv, Nat.reduceAdd]
  refine nK2 ?_
  refine s_reg rfl ?_
  first | refine Run.eff (dd := some 2) rfl rfl (op_box_flat rfl (Opd.tmp _ _ rfl) tC rfl) ?_ | refine Run.eff (dd := some 2) rfl rfl (op_box_refs rfl (Opd.tmp _ _ rfl) tP rfl) ?_
  first | refine Run.pure (dd := some 4) rfl rfl (op_assign rfl (Opd.const _)) ?_ | refine Run.pure (dd := some 4) rfl rfl (op_junk (.inr rfl)) ?_
  refine Run.nil (FinR.mk ?_)
  refine nK2 ?_
  refine s_reg rfl ?_
  first | refine Run.pure (dd := some 18) rfl rfl (op_fld_ptr (by decide) rfl (Opd.tmp _ _ rfl)) ?_ | refine Run.pure (dd := some 18) rfl rfl (op_fld_fz (by decide) rfl (Opd.tmp _ _ rfl) tR) ?_
  first | refine Run.load (dd := some 19) rfl rfl (op_load1_flat rfl (Opd.tmp _ _ rfl) tH rfl) ?_ | refine Run.pure (dd := some 19) rfl rfl (op_load1_fz rfl (Opd.tmp _ _ rfl) rfl) ?_ | refine Run.load (dd := some 19) rfl rfl (op_load1_refs rfl (Opd.tmp _ _ rfl) tH rfl) ?_
  first | refine Run.pure (dd := some 20) rfl rfl (op_fld_ptr (by decide) rfl (Opd.tmp _ _ rfl)) ?_ | refine Run.pure (dd := some 20) rfl rfl (op_fld_fz (by decide) rfl (Opd.tmp _ _ rfl) tR) ?_
  first | refine Run.load (dd := some 21) rfl rfl (op_load1_flat rfl (Opd.tmp _ _ rfl) tH rfl) ?_ | refine Run.pure (dd := some 21) rfl rfl (op_load1_fz rfl (Opd.tmp _ _ rfl) rfl) ?_ | refine Run.load (dd := some 21) rfl rfl (op_load1_refs rfl (Opd.tmp _ _ rfl) tH rfl) ?_
  refine Run.pure (dd := some 22) rfl rfl (op_add rfl (Opd.tmp _ _ rfl) (Opd.tmp _ _ rfl) tI) ?_
  refine Run.eff (dd := some 23) rfl rfl (op_make (l := n) (c := n) rfl (Opd.tmp _ _ rfl) (Opd.tmp _ _ rfl) rfl rfl rfl rfl (by intro _; refine ⟨hrn, hrn, ?_⟩; omega)) ?_
  first | refine Run.pure (dd := some 5) rfl rfl (op_assign rfl (Opd.tmp _ _ rfl)) ?_ | refine Run.pure (dd := some 5) rfl rfl (op_junk (.inr rfl)) ?_
  refine Run.nil (FinR.mk ?_)
  refine nK2 ?_
  refine Next.weak [0, 1] [] (by rfl) (keepsN hC _ rfl) (G' := [(1, IV .i64 a), (2, .ptr 0 3 0 0), (5, .sl 1 1 0 n)]) (H' := [(0, OG g), (1, OI (fillN n 0))]) (by repeat (first | exact trivial | refine ⟨⟨_, rfl, .inl ⟨rfl, rfl⟩⟩, ?_⟩ | refine ⟨⟨_, rfl, .inl ⟨slEq rfl tN, rfl⟩⟩, ?_⟩ | refine ⟨⟨_, rfl, .inl ⟨ivEq tX, rfl⟩⟩, ?_⟩)) (by exact ⟨ent_same rfl rfl rfl tL, ⟨ent_same rfl rfl (flEq rfl (by rw [fillN_0, List.map_replicate]; rfl)) trivial, trivial⟩⟩) (fun _ h => by simp at h) ?_
  refine nK2 ?_
  refine s_reg rfl ?_
  first | refine Run.pure (dd := some 24) rfl rfl (op_move rfl (Opd.tmp _ _ rfl)) ?_ | refine Run.pure (dd := some 24) rfl rfl (op_junk (.inl rfl)) ?_
  first | refine Run.pure (dd := some 25) rfl rfl (op_len_fz rfl (by first | exact Opd.tmp _ _ rfl | exact Opd.nil _ _ (Opd.tmp _ _ rfl)) (by first | exact List.length_map _ | rfl)) ?_ | refine Run.pure (dd := some 25) rfl rfl (op_len_sl rfl (Opd.tmp _ _ rfl)) ?_
  first | refine Run.pure (dd := some 26) rfl rfl (op_move rfl (Opd.const _)) ?_ | refine Run.pure (dd := some 26) rfl rfl (op_junk (.inl rfl)) ?_
  refine Run.nil (FinR.mk ?_)
  refine nK2 ?_
  refine n_loop (ι := Nat) (fun k => ([(1, IV .i64 a), (2, .ptr 0 3 0 0), (5, .sl 1 1 0 n), (25, IV .i64 n), (26, IV .i64 k)], [(0, OG g), (1, OI (fillN n k))], 2)) (fun k => k ≤ n) (fun k => n - k) 0 (Nat.zero_le _) ?_ ?_
  · refine Next.weak [0, 1] [] (by rfl) (keepsN hC _ rfl) (by repeat (first | exact trivial | refine ⟨⟨_, rfl, .inl ⟨rfl, rfl⟩⟩, ?_⟩ | refine ⟨⟨_, rfl, .inl ⟨slEq rfl tN, rfl⟩⟩, ?_⟩ | refine ⟨⟨_, rfl, .inl ⟨ivEq tX, rfl⟩⟩, ?_⟩)) (by exact ⟨ent_same rfl rfl rfl tL, ⟨ent_same rfl rfl rfl tL, trivial⟩⟩) (fun _ h => by simp at h) rel_intro
  · intro k hk K hK
    try dsimp only at hk ⊢
    refine nK2 ?_
    refine s_reg rfl ?_
    refine Run.pure (dd := some 27) rfl rfl (op_lss rfl (Opd.tmp _ _ rfl) (Opd.tmp _ _ rfl)) ?_
    refine Run.nil (FinR.mk ?_)
    refine nK2 ?_
    refine n_cond _ rfl (fun hb => ?_) (fun hb => ?_)
    · have hlt : k < n := by simpa using hb
      have hrow := row_of encN (fillN n k) k 0 (by rw [fillN_len _ _ hk]; exact hlt)
      refine nK2 ?_
      refine s_reg rfl ?_
      first | refine Run.pure (dd := some 28) rfl rfl (op_move rfl (Opd.tmp _ _ rfl)) ?_ | refine Run.pure (dd := some 28) rfl rfl (op_junk (.inl rfl)) ?_
      first | refine Run.pure (dd := some 6) rfl rfl (op_assign rfl (Opd.tmp _ _ rfl)) ?_ | refine Run.pure (dd := some 6) rfl rfl (op_junk (.inr rfl)) ?_
      refine Run.nil (FinR.mk ?_)
      refine nK2 ?_
      refine s_reg rfl ?_
      first | refine Run.pure (dd := some 29) rfl rfl (op_move rfl (Opd.tmp _ _ rfl)) ?_ | refine Run.pure (dd := some 29) rfl rfl (op_junk (.inl rfl)) ?_
      first | refine Run.pure (dd := some 30) rfl rfl (op_move rfl (Opd.tmp _ _ rfl)) ?_ | refine Run.pure (dd := some 30) rfl rfl (op_junk (.inl rfl)) ?_
      refine Run.pure (dd := some 31) rfl rfl (op_idx_sl0 k rfl (Opd.tmp _ _ rfl) (Opd.tmp _ _ rfl) (by intro _; exact ⟨rfl, hlt⟩)) ?_
      refine Run.eff (dd := none) rfl rfl (op_store_flat rfl (Opd.tmp _ _ rfl) (Opd.const _) tC rfl rfl hrow tS) ?_
      refine Run.nil (FinR.mk ?_)
      refine nK2 ?_
      refine s_reg rfl ?_
      refine Run.pure (dd := some 32) rfl rfl (op_add rfl (Opd.tmp _ _ rfl) (Opd.const _) tI) ?_
      first | refine Run.pure (dd := some 26) rfl rfl (op_move rfl (Opd.tmp _ _ rfl)) ?_ | refine Run.pure (dd := some 26) rfl rfl (op_junk (.inl rfl)) ?_
      refine Run.nil (FinR.mk ?_)
      refine nK2 ?_
      refine Next.weak [0, 1] [] (by rfl) (keepsN hC _ rfl) (by repeat (first | exact trivial | refine ⟨⟨_, rfl, .inl ⟨rfl, rfl⟩⟩, ?_⟩ | refine ⟨⟨_, rfl, .inl ⟨slEq rfl tN, rfl⟩⟩, ?_⟩ | refine ⟨⟨_, rfl, .inl ⟨ivEq tX, rfl⟩⟩, ?_⟩)) (by exact ⟨ent_same rfl rfl rfl tL, ⟨ent_same rfl rfl (flEq rfl (by rw [← fillN_set n k hlt, List.map_set]; rfl)) trivial, trivial⟩⟩) (fun _ h => by simp at h) (hK (k + 1) hlt (by omega))
    · have hge : k = n := by simp at hb; omega
      subst hge
      rw [fillN_n]
      refine nK2 ?_
      refine s_reg rfl ?_
      first | refine Run.pure (dd := some 33) rfl rfl (op_move rfl (Opd.tmp _ _ rfl)) ?_ | refine Run.pure (dd := some 33) rfl rfl (op_junk (.inl rfl)) ?_
      first | refine Run.pure (dd := some 34) rfl rfl (op_len_fz rfl (by first | exact Opd.tmp _ _ rfl | exact Opd.nil _ _ (Opd.tmp _ _ rfl)) (by first | exact List.length_map _ | rfl)) ?_ | refine Run.pure (dd := some 34) rfl rfl (op_len_sl rfl (Opd.tmp _ _ rfl)) ?_
      refine Run.eff (dd := some 35) rfl rfl (op_make (l := k) (c := k) rfl (Opd.tmp _ _ rfl) (Opd.tmp _ _ rfl) rfl rfl rfl rfl (by intro _; refine ⟨rfl, rfl, ?_⟩; omega)) ?_
      first | refine Run.pure (dd := some 7) rfl rfl (op_assign rfl (Opd.tmp _ _ rfl)) ?_ | refine Run.pure (dd := some 7) rfl rfl (op_junk (.inr rfl)) ?_
      refine Run.nil (FinR.mk ?_)
      refine nK2 ?_
      refine Next.toOwn 2 3 k rfl ?_
      refine Next.weak [0, 1, 2] [] (by rfl) (keepsN hC _ rfl) (G' := [(1, IV .i64 a), (2, .ptr 0 3 0 0), (5, .sl 1 1 0 k), (7, .sl 2 1 0 k)]) (H' := [(0, OG g), (1, OI (List.replicate k (-1))), (2, some (.refs 1 (ownL 3 (rowsE [] k))))]) (by repeat (first | exact trivial | refine ⟨⟨_, rfl, .inl ⟨rfl, rfl⟩⟩, ?_⟩ | refine ⟨⟨_, rfl, .inl ⟨slEq rfl tN, rfl⟩⟩, ?_⟩ | refine ⟨⟨_, rfl, .inl ⟨ivEq tX, rfl⟩⟩, ?_⟩)) (by exact ⟨ent_same rfl rfl rfl tL, ⟨ent_same rfl rfl rfl tL, ⟨ent_own rfl rfl (by rw [rowsE_nil, ← ownL_rep]; rfl), trivial⟩⟩⟩) (fun _ h => by simp at h) ?_
      refine nK2 ?_
      refine s_reg rfl ?_
      first | refine Run.pure (dd := some 36) rfl rfl (op_fld_ptr (by decide) rfl (Opd.tmp _ _ rfl)) ?_ | refine Run.pure (dd := some 36) rfl rfl (op_fld_fz (by decide) rfl (Opd.tmp _ _ rfl) tR) ?_
      first | refine Run.load (dd := some 37) rfl rfl (op_load1_flat rfl (Opd.tmp _ _ rfl) tH rfl) ?_ | refine Run.pure (dd := some 37) rfl rfl (op_load1_fz rfl (Opd.tmp _ _ rfl) rfl) ?_ | refine Run.load (dd := some 37) rfl rfl (op_load1_refs rfl (Opd.tmp _ _ rfl) tH rfl) ?_
      first | refine Run.pure (dd := some 38) rfl rfl (op_len_fz rfl (by first | exact Opd.tmp _ _ rfl | exact Opd.nil _ _ (Opd.tmp _ _ rfl)) (by first | exact List.length_map _ | rfl)) ?_ | refine Run.pure (dd := some 38) rfl rfl (op_len_sl rfl (Opd.tmp _ _ rfl)) ?_
      first | refine Run.pure (dd := some 39) rfl rfl (op_move rfl (Opd.const _)) ?_ | refine Run.pure (dd := some 39) rfl rfl (op_junk (.inl rfl)) ?_
      refine Run.nil (FinR.mk ?_)
      refine nK2 ?_
      refine n_loop (ι := Nat) (fun i => ([(1, IV .i64 a), (5, .sl 1 1 0 k), (7, .sl 2 1 0 k), (37, .fz (VE g.es)), (38, IV .i64 g.es.length), (39, IV .i64 i)], [(0, OG g), (1, OI (List.replicate k (-1))), (2, some (.refs 1 (ownL 3 (rowsE (g.es.take i) k))))], 3)) (fun i => i ≤ g.es.length) (fun i => g.es.length - i) 0 (Nat.zero_le _) ?_ ?_
      · refine Next.weak [0, 1, 2] [] (by rfl) (keepsN hC _ rfl) (by repeat (first | exact trivial | refine ⟨⟨_, rfl, .inl ⟨rfl, rfl⟩⟩, ?_⟩ | refine ⟨⟨_, rfl, .inl ⟨slEq rfl tN, rfl⟩⟩, ?_⟩ | refine ⟨⟨_, rfl, .inl ⟨ivEq tX, rfl⟩⟩, ?_⟩)) (by exact ⟨ent_same rfl rfl rfl tL, ⟨ent_same rfl rfl rfl tL, ⟨ent_own rfl rfl rfl, trivial⟩⟩⟩) (fun _ h => by simp at h) rel_intro
      · intro i hi K hK
        try dsimp only at hi ⊢
        refine nK2 ?_
        refine s_reg rfl ?_
        refine Run.pure (dd := some 40) rfl rfl (op_lss rfl (Opd.tmp _ _ rfl) (Opd.tmp _ _ rfl)) ?_
        refine Run.nil (FinR.mk ?_)
        refine nK2 ?_
        refine n_cond _ rfl (fun hb => ?_) (fun hb => ?_)
        · have hlt : i < g.es.length := by simp at hb; omega
          have hr1 := row_at' encE g.es i hlt
          have hef := vg.f _ (List.getElem_mem hlt)
          have hst := rowsE_succ (n := k) hlt hef.1
          have hrg := rowsE_get (g.es.take i) (n := k) (v := g.es[i].f.toNat) (by omega)
          have hlen : (outE (g.es.take i) g.es[i].f.toNat).length ≤ 1024 := by
            have h1 : (outE (g.es.take i) g.es[i].f.toNat).length ≤ (g.es.take i).length := List.length_filter_le _ _
            have h2 : (g.es.take i).length ≤ g.es.length := List.length_take_le' _ _
            omega
          have hK1 := hK (i + 1) (by omega) (by omega)
          rw [← hst] at hK1
          have hrl := rowsE_len (g.es.take i) k
          generalize rowsE (g.es.take i) k = irs at *
          generalize outE (g.es.take i) g.es[i].f.toNat = row at *
          generalize g.es[i] = e at *
          refine nK2 ?_
          refine s_reg rfl ?_
          first | refine Run.pure (dd := some 41) rfl rfl (op_idx_sl0 _ rfl (Opd.tmp _ _ rfl) (Opd.tmp _ _ rfl) tD) ?_ | refine Run.pure (dd := some 41) rfl rfl (op_idx_fz _ rfl (Opd.tmp _ _ rfl) (Opd.tmp _ _ rfl) tF) ?_
          first | refine Run.load (dd := some 42) rfl rfl (op_loadw_flat rfl (Opd.tmp _ _ rfl) tH rfl) ?_ | refine Run.pure (dd := some 42) rfl rfl (op_loadw_fz rfl (Opd.tmp _ _ rfl) rfl) ?_ | refine Run.load (dd := some 42) rfl rfl (op_loadn_flat rfl (Opd.tmp _ _ rfl) tH tR tR) ?_ | refine Run.pure (dd := some 42) rfl rfl (op_loadn_fz rfl (Opd.tmp _ _ rfl) tR) ?_ | refine Run.load (dd := some 42) rfl rfl (op_loadn_refs rfl (Opd.tmp _ _ rfl) tH tR tR) ?_
          refine Run.eff (dd := some 9) rfl rfl (op_alloc rfl rfl rfl rfl) ?_
          first | refine Run.eff (dd := none) rfl rfl (op_store_flat rfl (Opd.tmp _ _ rfl) (Opd.tmp _ _ rfl) tC rfl rfl (by first | rfl | assumption) tS) ?_ | refine Run.eff (dd := none) rfl rfl (op_store_refs rfl (Opd.tmp _ _ rfl) (Opd.tmp _ _ rfl) tP rfl rfl rfl tS) ?_
          refine Run.nil (FinR.mk ?_)
          refine nK2 ?_
          refine Next.take 2 e.f.toNat 0 rfl (ownL_get hrg) rfl rfl ?_
          have hs1 := set_get (ownL 3 irs) e.f.toNat [.sl 4 3 0 (row.map encE).length] (by rw [ownL_len, hrl]; omega)
          refine nK2 ?_
          refine s_draw mixed ?_
          first | refine Run.pure (dd := some 43) rfl rfl (op_move rfl (Opd.tmp _ _ rfl)) ?_ | refine Run.pure (dd := some 43) rfl rfl (op_junk (.inl rfl)) ?_
          first | refine Run.pure (dd := some 44) rfl rfl (op_fld_ptr (by decide) rfl (Opd.tmp _ _ rfl)) ?_ | refine Run.pure (dd := some 44) rfl rfl (op_fld_fz (by decide) rfl (Opd.tmp _ _ rfl) tR) ?_
          first | refine Run.load (dd := some 45) rfl rfl (op_load1_flat rfl (Opd.tmp _ _ rfl) tH rfl) ?_ | refine Run.pure (dd := some 45) rfl rfl (op_load1_fz rfl (Opd.tmp _ _ rfl) rfl) ?_ | refine Run.load (dd := some 45) rfl rfl (op_load1_refs rfl (Opd.tmp _ _ rfl) tH rfl) ?_
          first | refine Run.pure (dd := some 46) rfl rfl (op_move rfl (Opd.tmp _ _ rfl)) ?_ | refine Run.pure (dd := some 46) rfl rfl (op_junk (.inl rfl)) ?_
          first | refine Run.pure (dd := some 47) rfl rfl (op_fld_ptr (by decide) rfl (Opd.tmp _ _ rfl)) ?_ | refine Run.pure (dd := some 47) rfl rfl (op_fld_fz (by decide) rfl (Opd.tmp _ _ rfl) tR) ?_
          first | refine Run.load (dd := some 48) rfl rfl (op_load1_flat rfl (Opd.tmp _ _ rfl) tH rfl) ?_ | refine Run.pure (dd := some 48) rfl rfl (op_load1_fz rfl (Opd.tmp _ _ rfl) rfl) ?_ | refine Run.load (dd := some 48) rfl rfl (op_load1_refs rfl (Opd.tmp _ _ rfl) tH rfl) ?_
          refine Run.pure (dd := some 49) rfl rfl (op_idx_sl0 e.f.toNat rfl (Opd.tmp _ _ rfl) (Opd.tmp _ _ rfl) (by intro _; omega)) ?_
          refine Run.load (dd := some 50) rfl rfl (op_load1_refs rfl (Opd.tmp _ _ rfl) (by intro _; exact ⟨rfl, hs1⟩) rfl) ?_
          first | refine Run.load (dd := some 51) rfl rfl (op_loadw_flat rfl (Opd.tmp _ _ rfl) tH rfl) ?_ | refine Run.pure (dd := some 51) rfl rfl (op_loadw_fz rfl (Opd.tmp _ _ rfl) rfl) ?_ | refine Run.load (dd := some 51) rfl rfl (op_loadn_flat rfl (Opd.tmp _ _ rfl) tH tR tR) ?_ | refine Run.pure (dd := some 51) rfl rfl (op_loadn_fz rfl (Opd.tmp _ _ rfl) tR) ?_ | refine Run.load (dd := some 51) rfl rfl (op_loadn_refs rfl (Opd.tmp _ _ rfl) tH tR tR) ?_
          refine Run.pure (dd := some 52) rfl rfl (op_buildSlice_fz rfl (RowsF.cons _ _ _ _ _ _ (Opd.tmp _ _ rfl) tC (by rfl) (RowsF.nil _)) rfl rfl) ?_
          first | refine Run.effW (dd := some 53) rfl rfl (op_append_own0 rfl (Opd.tmp _ _ rfl) (Opd.tmp _ _ rfl) rfl (by first | rfl | simp) rfl (by first | rfl | simp) rfl rfl tB tB) (by first | exact ext_call | exact tE) ?_ | refine Run.effW (dd := some 53) rfl rfl (op_append rfl (Opd.tmp _ _ rfl) (by first | exact Opd.tmp _ _ rfl | exact Opd.nil _ _ (Opd.tmp _ _ rfl)) rfl (by first | rfl | simp) rfl rfl tB tB) (by first | exact ext_call | exact tE) ?_
          refine Run.pure (dd := some 54) rfl rfl (op_idx_sl0 e.f.toNat rfl (Opd.tmp _ _ rfl) (Opd.tmp _ _ rfl) (by intro _; omega)) ?_
          refine Run.effW (dd := none) rfl rfl (op_store_refs rfl (Opd.tmp _ _ rfl) (Opd.tmp _ _ rfl) tP rfl rfl hs1 tS) (by first | exact ext_call | exact tE) ?_
          refine Run.nil (FinD.mk (by kernel_rfl) ?_)
          refine nK2 ?_
          refine s_reg rfl ?_
          refine Run.pure (dd := some 55) rfl rfl (op_add rfl (Opd.tmp _ _ rfl) (Opd.const _) tI) ?_
          first | refine Run.pure (dd := some 39) rfl rfl (op_move rfl (Opd.tmp _ _ rfl)) ?_ | refine Run.pure (dd := some 39) rfl rfl (op_junk (.inl rfl)) ?_
          refine Run.nil (FinR.mk ?_)
          refine nK2 ?_
          refine Next.untake 2 e.f.toNat 0 rfl (set_get _ _ _ (by rw [List.length_set, ownL_len, hrl]; omega)) rfl rfl (by simp) rfl ?_
          refine Next.weak [0, 1, 2] [] (by rfl) (keepsN hC _ rfl) (by repeat (first | exact trivial | refine ⟨⟨_, rfl, .inl ⟨rfl, rfl⟩⟩, ?_⟩ | refine ⟨⟨_, rfl, .inl ⟨slEq rfl tN, rfl⟩⟩, ?_⟩ | refine ⟨⟨_, rfl, .inl ⟨ivEq tX, rfl⟩⟩, ?_⟩)) (by exact ⟨ent_same rfl rfl rfl tL, ⟨ent_same rfl rfl rfl tL, ⟨ent_own rfl rfl (congrArg (fun r => some (Ob.refs 1 r)) own_back), trivial⟩⟩⟩) (fun _ h => by simp at h) hK1
        · have hge : i = g.es.length := by simp at hb; omega
          subst hge
          rw [List.take_length]
          refine Next.freezeOwn 2 rfl rfl ?_
          have hFl : (fzL 3 (rowsE g.es k)).length = k := by rw [fzL_len, rowsE_len]
          refine Next.weakS [5] [7] (by rfl) (keepsN hC _ rfl) (G' := [(1, IV .i64 a), (5, .sl 0 1 0 k), (7, .fz (.vals 1 (fzL 3 (rowsE g.es k))))]) (H' := [(0, OI (List.replicate k (-1)))]) (by exact ⟨⟨_, rfl, .inl ⟨rfl, rfl⟩⟩, ⟨_, rfl, .inl ⟨rfl, rfl⟩⟩, ⟨_, rfl, .inr ⟨_, rfl, .sl _ _ _ _ _ _ rfl rfl (take_all0 hFl) (by rw [hFl])⟩⟩, trivial⟩) (by exact ⟨ent_same rfl rfl rfl tL, trivial⟩) rfl ?_
          have hSet := set_c (newH k) (HG.new k).hi a 0 (by simpa [newH] using ha) (by simp [newH])
          obtain ⟨hDJ, hcnt0⟩ := DJ.start vg ha
          refine nK2 ?_
          refine s_reg rfl ?_
          first | refine Run.pure (dd := some 56) rfl rfl (op_move rfl (Opd.tmp _ _ rfl)) ?_ | refine Run.pure (dd := some 56) rfl rfl (op_junk (.inl rfl)) ?_
          first | refine Run.pure (dd := some 57) rfl rfl (op_len_fz rfl (by first | exact Opd.tmp _ _ rfl | exact Opd.nil _ _ (Opd.tmp _ _ rfl)) (by first | exact List.length_map _ | rfl)) ?_ | refine Run.pure (dd := some 57) rfl rfl (op_len_sl rfl (Opd.tmp _ _ rfl)) ?_
          refine Run.eff (dd := some 58) rfl rfl (op_call (n := 0) (n' := 4) [] (fun _ => new_c k (by omega)) rfl (Opd.func _) (Opds.cons _ _ _ _ (Opd.tmp _ _ rfl) Opds.nil) rfl rfl (Lent.of rfl rfl trivial rfl) rfl rfl rfl rfl rfl) ?_
          first | refine Run.pure (dd := some 10) rfl rfl (op_assign rfl (Opd.tmp _ _ rfl)) ?_ | refine Run.pure (dd := some 10) rfl rfl (op_junk (.inr rfl)) ?_
          refine Run.nil (FinR.mk ?_)
          refine nK2 ?_
          refine s_reg rfl ?_
          first | refine Run.pure (dd := some 59) rfl rfl (op_move rfl (Opd.tmp _ _ rfl)) ?_ | refine Run.pure (dd := some 59) rfl rfl (op_junk (.inl rfl)) ?_
          first | refine Run.pure (dd := some 60) rfl rfl (op_move rfl (Opd.tmp _ _ rfl)) ?_ | refine Run.pure (dd := some 60) rfl rfl (op_junk (.inl rfl)) ?_
          refine Run.eff (dd := some 61) rfl rfl (op_call (n := 4) (n' := 5) [1, 2, 3, 4] (fun _ => hSet) rfl (Opd.func _) (Opds.cons _ _ _ _ (Opd.tmp _ _ rfl) (Opds.cons _ _ _ _ (Opd.tmp _ _ rfl) (Opds.cons _ _ _ _ (Opd.const _) Opds.nil))) rfl rfl (Lent.of rfl rfl (by exact ⟨⟨rfl, rfl, rfl, tL⟩, ⟨rfl, rfl, rfl, trivial⟩, ⟨rfl, rfl, rfl, trivial⟩, ⟨rfl, rfl, rfl, trivial⟩, trivial⟩) rfl) rfl rfl rfl rfl rfl) ?_
          refine Run.nil (FinR.mk ?_)
          refine nK2 ?_
          refine n_loop (ι := List Int × Hq) (fun s => ([(5, .sl 0 1 0 k), (7, .fz (.vals 1 (fzL 3 (rowsE g.es k)))), (10, .ptr 1 3 0 0)], HDS s.1 s.2, 5)) (fun s => DJ g.es k a s.1 s.2 []) (fun s => k - cntP s.1) (List.replicate k (-1), setH (newH k) a 0) hDJ ?_ ?_
          · refine Next.weak [0, 1, 5, 3, 4] [] (by rfl) (keepsN hC _ rfl) (by repeat (first | exact trivial | refine ⟨⟨_, rfl, .inl ⟨rfl, rfl⟩⟩, ?_⟩ | refine ⟨⟨_, rfl, .inl ⟨slEq rfl tN, rfl⟩⟩, ?_⟩ | refine ⟨⟨_, rfl, .inl ⟨ivEq tX, rfl⟩⟩, ?_⟩)) (by exact ⟨ent_same rfl rfl rfl tL, ⟨ent_same rfl rfl rfl tL, ⟨ent_same rfl rfl rfl tL, ⟨ent_same rfl rfl rfl tL, ⟨ent_same rfl rfl rfl tL, trivial⟩⟩⟩⟩⟩) (fun _ h => by simp at h) rel_intro
          · intro ⟨dist, h⟩ hI K hK
            try dsimp only at hI hK ⊢
            have hok' := hI.hg.hi
            have hdl := hI.dl
            have hpl := hI.hl
            have hsm := hok'.small
            by_cases hit : h.it = []
            · have hpn := pop_none h hok' hit
              refine nK2 ?_
              refine s_reg rfl ?_
              first | refine Run.pure (dd := some 63) rfl rfl (op_move rfl (Opd.tmp _ _ rfl)) ?_ | refine Run.pure (dd := some 63) rfl rfl (op_junk (.inl rfl)) ?_
              refine Run.load (dd := some 64) rfl rfl (op_call_read (n := 4) [1, 2, 3, 4] (fun _ => hpn) rfl (Opd.func _) (Opds.cons _ _ _ _ (Opd.tmp _ _ rfl) Opds.nil) rfl rfl (Lent.of rfl rfl (by exact ⟨⟨rfl, rfl, rfl, tL⟩, ⟨rfl, rfl, rfl, trivial⟩, ⟨rfl, rfl, rfl, trivial⟩, ⟨rfl, rfl, rfl, trivial⟩, trivial⟩) rfl) rfl) ?_
              first | refine Run.pure (dd := some 62) rfl rfl (op_move rfl (Opd.tmp _ _ rfl)) ?_ | refine Run.pure (dd := some 62) rfl rfl (op_junk (.inl rfl)) ?_
              first | refine Run.pure (dd := some 65) rfl rfl (op_extract_fz rfl (Opd.tmp _ _ rfl) rfl) ?_ | refine Run.pure (dd := some 65) rfl rfl (op_extract rfl (Opd.tmp _ _ rfl) rfl) ?_
              first | refine Run.pure (dd := some 66) rfl rfl (op_extract_fz rfl (Opd.tmp _ _ rfl) rfl) ?_ | refine Run.pure (dd := some 66) rfl rfl (op_extract rfl (Opd.tmp _ _ rfl) rfl) ?_
              first | refine Run.pure (dd := some 67) rfl rfl (op_extract_fz rfl (Opd.tmp _ _ rfl) rfl) ?_ | refine Run.pure (dd := some 67) rfl rfl (op_extract rfl (Opd.tmp _ _ rfl) rfl) ?_
              first | refine Run.pure (dd := some 11) rfl rfl (op_assign rfl (Opd.tmp _ _ rfl)) ?_ | refine Run.pure (dd := some 11) rfl rfl (op_junk (.inr rfl)) ?_
              first | refine Run.pure (dd := some 12) rfl rfl (op_assign rfl (Opd.tmp _ _ rfl)) ?_ | refine Run.pure (dd := some 12) rfl rfl (op_junk (.inr rfl)) ?_
              first | refine Run.pure (dd := some 13) rfl rfl (op_assign rfl (Opd.tmp _ _ rfl)) ?_ | refine Run.pure (dd := some 13) rfl rfl (op_junk (.inr rfl)) ?_
              refine Run.nil (FinR.mk ?_)
              refine nK2 ?_
              refine s_reg rfl ?_
              first | refine Run.pure (dd := some 68) rfl rfl (op_move rfl (Opd.tmp _ _ rfl)) ?_ | refine Run.pure (dd := some 68) rfl rfl (op_junk (.inl rfl)) ?_
              refine Run.pure (dd := some 69) rfl rfl (op_not rfl (Opd.tmp _ _ rfl)) ?_
              refine Run.nil (FinR.mk ?_)
              refine nK2 ?_
              refine n_cond _ rfl (fun hb => ?_) (fun hb => ?_)
              · have hde : dist = d := by
                  apply List.ext_getElem (by omega)
                  intro v h1 h2
                  have := (hI.done vg ha hit (v := v) (by omega)).uniq (hD v (by omega))
                  simpa [gt0, List.getD_eq_getElem?_getD, h1, h2] using this
                subst hde
                refine nK2 ?_
                refine s_reg rfl ?_
                first | refine Run.pure (dd := some 117) rfl rfl (op_move rfl (Opd.tmp _ _ rfl)) ?_ | refine Run.pure (dd := some 117) rfl rfl (op_junk (.inl rfl)) ?_
                first | refine Run.pure (dd := some 4) rfl rfl (op_assign rfl (Opd.tmp _ _ rfl)) ?_ | refine Run.pure (dd := some 4) rfl rfl (op_junk (.inr rfl)) ?_
                refine Run.nil (FinR.mk ?_)
                refine nK2 ?_
                refine Next.weakS [] [4] (by rfl) (keeps0 hC _) (G' := [(4, .fz (VI dist))]) (H' := []) ⟨⟨_, rfl, .inr ⟨_, rfl, .sl _ _ _ _ _ _ rfl rfl (take_all0 (by rw [List.length_map]; exact hdl)) (by rw [List.length_map]; omega)⟩⟩, trivial⟩ trivial rfl ?_
                exact n_out1 rfl (by rfl) rfl rfl
              · simp at hb
            · have hne : 0 < h.it.length := Nat.pos_of_ne_zero fun e => hit (List.length_eq_zero_iff.1 e)
              have hps := pop_some h hok' hne (by omega)
              obtain ⟨x1, x2, x3, x4, x5, x6⟩ := hI.pop vg ha hne
              have hrx := row_of encN dist (h.item 0) 0 (by omega)
              have hcl := cntP_le (dist.set (h.item 0) (h.key (h.item 0)))
              rw [List.length_set] at hcl
              have hrE := fzL_get (sz := 3) (rowsE_get g.es x1)
              have hLsub : ∀ e ∈ outE g.es (h.item 0), e ∈ g.es ∧ e.f = (h.item 0 : Nat) := fun e he => by simpa [outE] using he
              have hLl : (outE g.es (h.item 0)).length ≤ 1024 := by
                have : (outE g.es (h.item 0)).length ≤ g.es.length := List.length_filter_le _ _
                omega
              have hdx : gt0 (dist.set (h.item 0) (h.key (h.item 0))) (h.item 0) = h.key (h.item 0) := by rw [gt0, getD_set _ _ _ _ _ (by omega), if_pos rfl]
              change DJ g.es k a (dist.set (h.item 0) (h.key (h.item 0))) (dropH h (h.item 0)) (outE g.es (h.item 0)) at x6
              generalize h.item 0 = x at *
              generalize h.key x = kx at *
              generalize dropH h x = h1 at *
              generalize outE g.es x = L at *
              refine nK2 ?_
              refine s_reg rfl ?_
              first | refine Run.pure (dd := some 63) rfl rfl (op_move rfl (Opd.tmp _ _ rfl)) ?_ | refine Run.pure (dd := some 63) rfl rfl (op_junk (.inl rfl)) ?_
              refine Run.eff (dd := some 64) rfl rfl (op_call (n := 4) (n' := 5) [1, 2, 3, 4] (fun _ => hps) rfl (Opd.func _) (Opds.cons _ _ _ _ (Opd.tmp _ _ rfl) Opds.nil) rfl rfl (Lent.of rfl rfl (by exact ⟨⟨rfl, rfl, rfl, tL⟩, ⟨rfl, rfl, rfl, trivial⟩, ⟨rfl, rfl, rfl, trivial⟩, ⟨rfl, rfl, rfl, trivial⟩, trivial⟩) rfl) rfl rfl rfl rfl rfl) ?_
              first | refine Run.pure (dd := some 62) rfl rfl (op_move rfl (Opd.tmp _ _ rfl)) ?_ | refine Run.pure (dd := some 62) rfl rfl (op_junk (.inl rfl)) ?_
              first | refine Run.pure (dd := some 65) rfl rfl (op_extract_fz rfl (Opd.tmp _ _ rfl) rfl) ?_ | refine Run.pure (dd := some 65) rfl rfl (op_extract rfl (Opd.tmp _ _ rfl) rfl) ?_
              first | refine Run.pure (dd := some 66) rfl rfl (op_extract_fz rfl (Opd.tmp _ _ rfl) rfl) ?_ | refine Run.pure (dd := some 66) rfl rfl (op_extract rfl (Opd.tmp _ _ rfl) rfl) ?_
              first | refine Run.pure (dd := some 67) rfl rfl (op_extract_fz rfl (Opd.tmp _ _ rfl) rfl) ?_ | refine Run.pure (dd := some 67) rfl rfl (op_extract rfl (Opd.tmp _ _ rfl) rfl) ?_
              first | refine Run.pure (dd := some 11) rfl rfl (op_assign rfl (Opd.tmp _ _ rfl)) ?_ | refine Run.pure (dd := some 11) rfl rfl (op_junk (.inr rfl)) ?_
              first | refine Run.pure (dd := some 12) rfl rfl (op_assign rfl (Opd.tmp _ _ rfl)) ?_ | refine Run.pure (dd := some 12) rfl rfl (op_junk (.inr rfl)) ?_
              first | refine Run.pure (dd := some 13) rfl rfl (op_assign rfl (Opd.tmp _ _ rfl)) ?_ | refine Run.pure (dd := some 13) rfl rfl (op_junk (.inr rfl)) ?_
              refine Run.nil (FinR.mk ?_)
              refine nK2 ?_
              refine s_reg rfl ?_
              first | refine Run.pure (dd := some 68) rfl rfl (op_move rfl (Opd.tmp _ _ rfl)) ?_ | refine Run.pure (dd := some 68) rfl rfl (op_junk (.inl rfl)) ?_
              refine Run.pure (dd := some 69) rfl rfl (op_not rfl (Opd.tmp _ _ rfl)) ?_
              refine Run.nil (FinR.mk ?_)
              refine nK2 ?_
              refine n_cond _ rfl (fun hb => ?_) (fun hb => ?_)
              · simp at hb
              · refine nK2 ?_
                refine s_reg rfl ?_
                first | refine Run.pure (dd := some 70) rfl rfl (op_move rfl (Opd.tmp _ _ rfl)) ?_ | refine Run.pure (dd := some 70) rfl rfl (op_junk (.inl rfl)) ?_
                first | refine Run.pure (dd := some 71) rfl rfl (op_move rfl (Opd.tmp _ _ rfl)) ?_ | refine Run.pure (dd := some 71) rfl rfl (op_junk (.inl rfl)) ?_
                first | refine Run.pure (dd := some 72) rfl rfl (op_move rfl (Opd.tmp _ _ rfl)) ?_ | refine Run.pure (dd := some 72) rfl rfl (op_junk (.inl rfl)) ?_
                refine Run.pure (dd := some 73) rfl rfl (op_idx_sl0 x rfl (Opd.tmp _ _ rfl) (Opd.tmp _ _ rfl) (by intro _; exact ⟨rfl, x1⟩)) ?_
                refine Run.eff (dd := none) rfl rfl (op_store_flat rfl (Opd.tmp _ _ rfl) (Opd.tmp _ _ rfl) tC rfl rfl hrx tS) ?_
                refine Run.nil (FinR.mk ?_)
                refine nK2 ?_
                refine s_reg rfl ?_
                first | refine Run.pure (dd := some 74) rfl rfl (op_move rfl (Opd.tmp _ _ rfl)) ?_ | refine Run.pure (dd := some 74) rfl rfl (op_junk (.inl rfl)) ?_
                first | refine Run.pure (dd := some 75) rfl rfl (op_move rfl (Opd.tmp _ _ rfl)) ?_ | refine Run.pure (dd := some 75) rfl rfl (op_junk (.inl rfl)) ?_
                refine Run.pure (dd := some 76) rfl rfl (op_idx_fz x rfl (Opd.tmp _ _ rfl) (Opd.tmp _ _ rfl) (by intro _; exact ⟨rfl, hrE⟩)) ?_
                first | refine Run.load (dd := some 77) rfl rfl (op_load1_flat rfl (Opd.tmp _ _ rfl) tH rfl) ?_ | refine Run.pure (dd := some 77) rfl rfl (op_load1_fz rfl (Opd.tmp _ _ rfl) rfl) ?_ | refine Run.load (dd := some 77) rfl rfl (op_load1_refs rfl (Opd.tmp _ _ rfl) tH rfl) ?_
                first | refine Run.pure (dd := some 78) rfl rfl (op_len_fz rfl (by first | exact Opd.tmp _ _ rfl | exact Opd.nil _ _ (Opd.tmp _ _ rfl)) (by first | exact List.length_map _ | rfl)) ?_ | refine Run.pure (dd := some 78) rfl rfl (op_len_sl rfl (Opd.tmp _ _ rfl)) ?_
                first | refine Run.pure (dd := some 79) rfl rfl (op_move rfl (Opd.const _)) ?_ | refine Run.pure (dd := some 79) rfl rfl (op_junk (.inl rfl)) ?_
                refine Run.nil (FinR.mk ?_)
                refine nK2 ?_
                refine n_loop (ι := Nat × Hq) (fun s => ([(5, .sl 0 1 0 k), (7, .fz (.vals 1 (fzL 3 (rowsE g.es k)))), (10, .ptr 1 3 0 0), (12, IV .i64 kx), (77, .fz (VE L)), (78, IV .i64 L.length), (79, IV .i64 s.1)], HDS (dist.set x kx) s.2, 5)) (fun s => s.1 ≤ L.length ∧ DJ g.es k a (dist.set x kx) s.2 (L.drop s.1)) (fun s => L.length - s.1) (0, h1) ⟨Nat.zero_le _, x6⟩ ?_ ?_
                · refine Next.weak [0, 1, 5, 3, 4] [] (by rfl) (keepsN hC _ rfl) (by repeat (first | exact trivial | refine ⟨⟨_, rfl, .inl ⟨rfl, rfl⟩⟩, ?_⟩ | refine ⟨⟨_, rfl, .inl ⟨slEq rfl tN, rfl⟩⟩, ?_⟩ | refine ⟨⟨_, rfl, .inl ⟨ivEq tX, rfl⟩⟩, ?_⟩)) (by exact ⟨ent_same rfl rfl (flEq rfl (by rw [List.map_set]; rfl)) trivial, ⟨ent_same rfl rfl rfl tL, ⟨ent_same rfl rfl rfl tL, ⟨ent_same rfl rfl rfl tL, ⟨ent_same rfl rfl rfl tL, trivial⟩⟩⟩⟩⟩) (fun _ h => by simp at h) rel_intro
                · intro ⟨j, h2⟩ ⟨hj, hJ⟩ K2 hK2
                  try dsimp only at hj hJ hK2 ⊢
                  refine nK2 ?_
                  refine s_reg rfl ?_
                  refine Run.pure (dd := some 80) rfl rfl (op_lss rfl (Opd.tmp _ _ rfl) (Opd.tmp _ _ rfl)) ?_
                  refine Run.nil (FinR.mk ?_)
                  refine nK2 ?_
                  refine n_cond _ rfl (fun hb => ?_) (fun hb => ?_)
                  · have hlt : j < L.length := by simp at hb; omega
                    have hr1 := row_at' encE L j hlt
                    obtain ⟨he, hef⟩ := hLsub _ (List.getElem_mem hlt)
                    rw [List.drop_eq_getElem_cons hlt] at hJ
                    have hK3 := fun h3 hh => hK2 (j + 1, h3) ⟨by dsimp only; omega, hh⟩ (by dsimp only; omega)
                    dsimp only at hK3
                    generalize L[j] = e at *
                    have het := vg.t e he
                    have hec := vg.c e he
                    have hJo := hJ.hg.hi
                    have hJl := hJ.hl
                    have hJs := hJo.small
                    have hJd := hJ.dl
                    have hket := key_i h2 hJo.ok e.t e.t.toNat (by omega) (by omega)
                    have hrt := row_of encN (dist.set x kx) e.t.toNat 0 (by omega)
                    have hput := fun hc => hJ.put vg he (by rw [hef, Int.toNat_natCast, hdx]; exact x3) (by rw [hef, Int.toNat_natCast, hdx, x5]; omega) hc
                    have hskip := fun hc => hJ.skip vg hc
                    have hset := set_i h2 hJo e.t e.t.toNat (kx + e.c) (by omega) (by omega) (by omega)
                    have hfx : gt0 (dist.set x kx) e.f.toNat = kx := by rw [hef, Int.toNat_natCast]; exact hdx
                    rw [hfx] at hput hskip
                    have hgt : (dist.set x kx).getD e.t.toNat 0 = gt0 (dist.set x kx) e.t.toNat := rfl
                    rw [hgt] at hrt
                    have hqb := hJ.q e.t.toNat (by omega)
                    refine nK2 ?_
                    refine s_reg rfl ?_
                    first | refine Run.pure (dd := some 81) rfl rfl (op_idx_sl0 _ rfl (Opd.tmp _ _ rfl) (Opd.tmp _ _ rfl) tD) ?_ | refine Run.pure (dd := some 81) rfl rfl (op_idx_fz _ rfl (Opd.tmp _ _ rfl) (Opd.tmp _ _ rfl) tF) ?_
                    first | refine Run.load (dd := some 82) rfl rfl (op_loadw_flat rfl (Opd.tmp _ _ rfl) tH rfl) ?_ | refine Run.pure (dd := some 82) rfl rfl (op_loadw_fz rfl (Opd.tmp _ _ rfl) rfl) ?_ | refine Run.load (dd := some 82) rfl rfl (op_loadn_flat rfl (Opd.tmp _ _ rfl) tH tR tR) ?_ | refine Run.pure (dd := some 82) rfl rfl (op_loadn_fz rfl (Opd.tmp _ _ rfl) tR) ?_ | refine Run.load (dd := some 82) rfl rfl (op_loadn_refs rfl (Opd.tmp _ _ rfl) tH tR tR) ?_
                    refine Run.eff (dd := some 15) rfl rfl (op_alloc rfl rfl rfl rfl) ?_
                    first | refine Run.eff (dd := none) rfl rfl (op_store_flat rfl (Opd.tmp _ _ rfl) (Opd.tmp _ _ rfl) tC rfl rfl (by first | rfl | assumption) tS) ?_ | refine Run.eff (dd := none) rfl rfl (op_store_refs rfl (Opd.tmp _ _ rfl) (Opd.tmp _ _ rfl) tP rfl rfl rfl tS) ?_
                    refine Run.nil (FinR.mk ?_)
                    refine nK2 ?_
                    refine s_reg rfl ?_
                    first | refine Run.pure (dd := some 84) rfl rfl (op_move rfl (Opd.tmp _ _ rfl)) ?_ | refine Run.pure (dd := some 84) rfl rfl (op_junk (.inl rfl)) ?_
                    first | refine Run.pure (dd := some 85) rfl rfl (op_fld_ptr (by decide) rfl (Opd.tmp _ _ rfl)) ?_ | refine Run.pure (dd := some 85) rfl rfl (op_fld_fz (by decide) rfl (Opd.tmp _ _ rfl) tR) ?_
                    first | refine Run.load (dd := some 86) rfl rfl (op_load1_flat rfl (Opd.tmp _ _ rfl) tH rfl) ?_ | refine Run.pure (dd := some 86) rfl rfl (op_load1_fz rfl (Opd.tmp _ _ rfl) rfl) ?_ | refine Run.load (dd := some 86) rfl rfl (op_load1_refs rfl (Opd.tmp _ _ rfl) tH rfl) ?_
                    refine Run.load (dd := some 87) rfl rfl (op_call_read (n := 4) [1, 2, 3, 4] (fun _ => hket) rfl (Opd.func _) (Opds.cons _ _ _ _ (Opd.tmp _ _ rfl) (Opds.cons _ _ _ _ (Opd.tmp _ _ rfl) Opds.nil)) rfl rfl (Lent.of rfl rfl (by exact ⟨⟨rfl, rfl, rfl, tL⟩, ⟨rfl, rfl, rfl, trivial⟩, ⟨rfl, rfl, rfl, trivial⟩, ⟨rfl, rfl, rfl, trivial⟩, trivial⟩) rfl) rfl) ?_
                    first | refine Run.pure (dd := some 83) rfl rfl (op_move rfl (Opd.tmp _ _ rfl)) ?_ | refine Run.pure (dd := some 83) rfl rfl (op_junk (.inl rfl)) ?_
                    first | refine Run.pure (dd := some 88) rfl rfl (op_extract_fz rfl (Opd.tmp _ _ rfl) rfl) ?_ | refine Run.pure (dd := some 88) rfl rfl (op_extract rfl (Opd.tmp _ _ rfl) rfl) ?_
                    first | refine Run.pure (dd := some 89) rfl rfl (op_extract_fz rfl (Opd.tmp _ _ rfl) rfl) ?_ | refine Run.pure (dd := some 89) rfl rfl (op_extract rfl (Opd.tmp _ _ rfl) rfl) ?_
                    first | refine Run.pure (dd := some 16) rfl rfl (op_assign rfl (Opd.tmp _ _ rfl)) ?_ | refine Run.pure (dd := some 16) rfl rfl (op_junk (.inr rfl)) ?_
                    first | refine Run.pure (dd := some 17) rfl rfl (op_assign rfl (Opd.tmp _ _ rfl)) ?_ | refine Run.pure (dd := some 17) rfl rfl (op_junk (.inr rfl)) ?_
                    refine Run.nil (FinR.mk ?_)
                    refine nK2 ?_
                    refine s_reg rfl ?_
                    first | refine Run.pure (dd := some 90) rfl rfl (op_move rfl (Opd.tmp _ _ rfl)) ?_ | refine Run.pure (dd := some 90) rfl rfl (op_junk (.inl rfl)) ?_
                    first | refine Run.pure (dd := some 91) rfl rfl (op_fld_ptr (by decide) rfl (Opd.tmp _ _ rfl)) ?_ | refine Run.pure (dd := some 91) rfl rfl (op_fld_fz (by decide) rfl (Opd.tmp _ _ rfl) tR) ?_
                    first | refine Run.load (dd := some 92) rfl rfl (op_load1_flat rfl (Opd.tmp _ _ rfl) tH rfl) ?_ | refine Run.pure (dd := some 92) rfl rfl (op_load1_fz rfl (Opd.tmp _ _ rfl) rfl) ?_ | refine Run.load (dd := some 92) rfl rfl (op_load1_refs rfl (Opd.tmp _ _ rfl) tH rfl) ?_
                    refine Run.pure (dd := some 93) rfl rfl (op_idx_sl0 e.t.toNat rfl (Opd.tmp _ _ rfl) (Opd.tmp _ _ rfl) (by intro _; omega)) ?_
                    refine Run.load (dd := some 94) rfl rfl (op_load1_flat rfl (Opd.tmp _ _ rfl) (by intro _; exact ⟨rfl, hrt⟩) rfl) ?_
                    refine Run.pure (dd := some 95) rfl rfl (op_lss rfl (Opd.tmp _ _ rfl) (Opd.const _)) ?_
                    first | refine Run.pure (dd := some 96) rfl rfl (op_move rfl (Opd.tmp _ _ rfl)) ?_ | refine Run.pure (dd := some 96) rfl rfl (op_junk (.inl rfl)) ?_
                    first | refine Run.pureG (dd := some 97) rfl rfl rfl tG (op_move rfl (Opd.tmp _ _ rfl)) ?_ | refine Run.pureG (dd := some 97) rfl rfl rfl tG (op_junk (.inl rfl)) ?_
                    refine Run.pureG (dd := some 98) rfl rfl rfl tG (op_not rfl (Opd.topt _ _ _ rfl tO)) ?_
                    first | refine Run.pureG (dd := some 99) rfl rfl rfl tG (op_move rfl (Opd.topt _ _ _ rfl tO)) ?_ | refine Run.pureG (dd := some 99) rfl rfl rfl tG (op_junk (.inl rfl)) ?_
                    first | refine Run.pureG (dd := some 100) rfl rfl rfl tG (op_move rfl (Opd.tmp _ _ rfl)) ?_ | refine Run.pureG (dd := some 100) rfl rfl rfl tG (op_junk (.inl rfl)) ?_
                    first | refine Run.pureG (dd := some 101) rfl rfl rfl tG (op_fld_ptr (by decide) rfl (Opd.tmp _ _ rfl)) ?_ | refine Run.pureG (dd := some 101) rfl rfl rfl tG (op_fld_fz (by decide) rfl (Opd.tmp _ _ rfl) tR) ?_
                    first | refine Run.loadG (dd := some 102) rfl rfl rfl tG (op_load1_flat rfl (Opd.topt _ _ _ rfl tO) tH rfl) ?_ | refine Run.pureG (dd := some 102) rfl rfl rfl tG (op_load1_fz rfl (Opd.topt _ _ _ rfl tO) rfl) ?_ | refine Run.loadG (dd := some 102) rfl rfl rfl tG (op_load1_refs rfl (Opd.topt _ _ _ rfl tO) tH rfl) ?_
                    refine Run.pureG (dd := some 103) rfl rfl rfl tG (op_add rfl (Opd.topt _ _ _ rfl tO) (Opd.topt _ _ _ rfl tO) tI) ?_
                    first | refine Run.pureG (dd := some 104) rfl rfl rfl tG (op_move rfl (Opd.tmp _ _ rfl)) ?_ | refine Run.pureG (dd := some 104) rfl rfl rfl tG (op_junk (.inl rfl)) ?_
                    refine Run.pureG (dd := some 105) rfl rfl rfl tG (op_lss rfl (Opd.topt _ _ _ rfl tO) (Opd.topt _ _ _ rfl tO)) ?_
                    refine Run.pureG (dd := some 106) rfl rfl rfl tG (op_pick_or rfl (Opd.topt _ _ _ rfl tO) (Opd.topt _ _ _ rfl tO)) ?_
                    refine Run.pure (dd := some 107) rfl rfl (op_pick_and rfl (Opd.tmp _ _ rfl) (Opd.topt _ _ _ rfl tO)) ?_
                    refine Run.nil (FinR.mk ?_)
                    refine nK2 ?_
                    refine n_cond _ rfl (fun hb => ?_) (fun hb => ?_)
                    · have hc : gt0 (dist.set x kx) e.t.toNat < 0 ∧ (h2.place e.t.toNat < 0 ∨ kx + e.c < h2.key e.t.toNat) := by
                        simp only [Bool.and_eq_true, Bool.or_eq_true, Bool.not_eq_true', decide_eq_true_eq, decide_eq_false_iff_not] at hb
                        refine ⟨hb.1, ?_⟩
                        rcases hb.2 with h5 | h5
                        · exact .inl (by omega)
                        · by_cases h6 : 0 ≤ h2.place e.t.toNat
                          · rw [if_pos h6] at h5; exact .inr h5
                          · exact .inl (by omega)
                      refine nK2 ?_
                      refine s_reg rfl ?_
                      first | refine Run.pure (dd := some 108) rfl rfl (op_move rfl (Opd.tmp _ _ rfl)) ?_ | refine Run.pure (dd := some 108) rfl rfl (op_junk (.inl rfl)) ?_
                      first | refine Run.pure (dd := some 109) rfl rfl (op_fld_ptr (by decide) rfl (Opd.tmp _ _ rfl)) ?_ | refine Run.pure (dd := some 109) rfl rfl (op_fld_fz (by decide) rfl (Opd.tmp _ _ rfl) tR) ?_
                      first | refine Run.load (dd := some 110) rfl rfl (op_load1_flat rfl (Opd.tmp _ _ rfl) tH rfl) ?_ | refine Run.pure (dd := some 110) rfl rfl (op_load1_fz rfl (Opd.tmp _ _ rfl) rfl) ?_ | refine Run.load (dd := some 110) rfl rfl (op_load1_refs rfl (Opd.tmp _ _ rfl) tH rfl) ?_
                      first | refine Run.pure (dd := some 111) rfl rfl (op_move rfl (Opd.tmp _ _ rfl)) ?_ | refine Run.pure (dd := some 111) rfl rfl (op_junk (.inl rfl)) ?_
                      first | refine Run.pure (dd := some 112) rfl rfl (op_fld_ptr (by decide) rfl (Opd.tmp _ _ rfl)) ?_ | refine Run.pure (dd := some 112) rfl rfl (op_fld_fz (by decide) rfl (Opd.tmp _ _ rfl) tR) ?_
                      first | refine Run.load (dd := some 113) rfl rfl (op_load1_flat rfl (Opd.tmp _ _ rfl) tH rfl) ?_ | refine Run.pure (dd := some 113) rfl rfl (op_load1_fz rfl (Opd.tmp _ _ rfl) rfl) ?_ | refine Run.load (dd := some 113) rfl rfl (op_load1_refs rfl (Opd.tmp _ _ rfl) tH rfl) ?_
                      refine Run.pure (dd := some 114) rfl rfl (op_add rfl (Opd.tmp _ _ rfl) (Opd.tmp _ _ rfl) tI) ?_
                      refine Run.eff (dd := some 115) rfl rfl (op_call (n := 4) (n' := 5) [1, 2, 3, 4] (fun _ => hset) rfl (Opd.func _) (Opds.cons _ _ _ _ (Opd.tmp _ _ rfl) (Opds.cons _ _ _ _ (Opd.tmp _ _ rfl) (Opds.cons _ _ _ _ (Opd.tmp _ _ rfl) Opds.nil))) rfl rfl (Lent.of rfl rfl (by exact ⟨⟨rfl, rfl, rfl, tL⟩, ⟨rfl, rfl, rfl, trivial⟩, ⟨rfl, rfl, rfl, trivial⟩, ⟨rfl, rfl, rfl, trivial⟩, trivial⟩) rfl) rfl rfl rfl rfl rfl) ?_
                      refine Run.nil (FinR.mk ?_)
                      refine nK2 ?_
                      refine s_reg rfl ?_
                      refine Run.pure (dd := some 116) rfl rfl (op_add rfl (Opd.tmp _ _ rfl) (Opd.const _) tI) ?_
                      first | refine Run.pure (dd := some 79) rfl rfl (op_move rfl (Opd.tmp _ _ rfl)) ?_ | refine Run.pure (dd := some 79) rfl rfl (op_junk (.inl rfl)) ?_
                      refine Run.nil (FinR.mk ?_)
                      refine nK2 ?_
                      refine Next.weak [0, 1, 6, 3, 4] [] (by rfl) (keepsN hC _ rfl) (by repeat (first | exact trivial | refine ⟨⟨_, rfl, .inl ⟨rfl, rfl⟩⟩, ?_⟩ | refine ⟨⟨_, rfl, .inl ⟨slEq rfl tN, rfl⟩⟩, ?_⟩ | refine ⟨⟨_, rfl, .inl ⟨ivEq tX, rfl⟩⟩, ?_⟩)) (by exact ⟨ent_same rfl rfl rfl tL, ⟨ent_same rfl rfl rfl tL, ⟨ent_same rfl rfl rfl tL, ⟨ent_same rfl rfl rfl tL, ⟨ent_same rfl rfl rfl tL, trivial⟩⟩⟩⟩⟩) (fun _ h => by simp at h) (hK3 _ (hput hc))
                    · have hc : ¬ (gt0 (dist.set x kx) e.t.toNat < 0 ∧ (h2.place e.t.toNat < 0 ∨ kx + e.c < h2.key e.t.toNat)) := fun hc => by
                        rw [Bool.eq_false_iff] at hb
                        apply hb
                        simp only [Bool.and_eq_true, Bool.or_eq_true, Bool.not_eq_true', decide_eq_true_eq, decide_eq_false_iff_not]
                        refine ⟨hc.1, ?_⟩
                        by_cases h6 : 0 ≤ h2.place e.t.toNat
                        · rw [if_pos h6]
                          rcases hc.2 with h5 | h5
                          · omega
                          · exact .inr h5
                        · exact .inl (by omega)
                      refine nK2 ?_
                      refine s_reg rfl ?_
                      refine Run.pure (dd := some 116) rfl rfl (op_add rfl (Opd.tmp _ _ rfl) (Opd.const _) tI) ?_
                      first | refine Run.pure (dd := some 79) rfl rfl (op_move rfl (Opd.tmp _ _ rfl)) ?_ | refine Run.pure (dd := some 79) rfl rfl (op_junk (.inl rfl)) ?_
                      refine Run.nil (FinR.mk ?_)
                      refine nK2 ?_
                      refine Next.weak [0, 1, 2, 3, 4] [] (by rfl) (keepsN hC _ rfl) (by repeat (first | exact trivial | refine ⟨⟨_, rfl, .inl ⟨rfl, rfl⟩⟩, ?_⟩ | refine ⟨⟨_, rfl, .inl ⟨slEq rfl tN, rfl⟩⟩, ?_⟩ | refine ⟨⟨_, rfl, .inl ⟨ivEq tX, rfl⟩⟩, ?_⟩)) (by exact ⟨ent_same rfl rfl rfl tL, ⟨ent_same rfl rfl rfl tL, ⟨ent_same rfl rfl rfl tL, ⟨ent_same rfl rfl rfl tL, ⟨ent_same rfl rfl rfl tL, trivial⟩⟩⟩⟩⟩) (fun _ h => by simp at h) (hK3 _ (hskip hc))
                  · have hje : j = L.length := by simp at hb; omega
                    subst hje
                    rw [List.drop_length] at hJ
                    refine nK2 ?_
                    refine Next.weak [0, 1, 2, 3, 4] [] (by rfl) (keepsN hC _ rfl) (by repeat (first | exact trivial | refine ⟨⟨_, rfl, .inl ⟨rfl, rfl⟩⟩, ?_⟩ | refine ⟨⟨_, rfl, .inl ⟨slEq rfl tN, rfl⟩⟩, ?_⟩ | refine ⟨⟨_, rfl, .inl ⟨ivEq tX, rfl⟩⟩, ?_⟩)) (by exact ⟨ent_same rfl rfl rfl tL, ⟨ent_same rfl rfl rfl tL, ⟨ent_same rfl rfl rfl tL, ⟨ent_same rfl rfl rfl tL, ⟨ent_same rfl rfl rfl tL, trivial⟩⟩⟩⟩⟩) (fun _ h => by simp at h) (hK (dist.set x kx, h2) hJ (by dsimp only; omega))
end Go.Proofs.Ytgbfkpcigipniaa
namespace Go.Pl
open Go Go.RT
set_option linter.all false
def encL (l : List Int) : List FV := [VI l]
abbrev VLL (ll : List (List Int)) : FV := .vals 1 (ll.map encL)
def rowsI (ll : List (List Int)) : List (List (List FV)) := ll.map fun l => l.map encN
theorem fz_rowsI (ll : List (List Int)) : fzL 1 (rowsI ll) = ll.map encL := by simp [fzL, rowsI, encL]
theorem rowsI_len (ll : List (List Int)) : (rowsI ll).length = ll.length := by simp [rowsI]
theorem rowsI_set (ll : List (List Int)) (v : Nat) (l : List Int) : (rowsI ll).set v (l.map encN) = rowsI (ll.set v l) := by unfold rowsI; rw [List.map_set]
theorem rowsI_get {ll : List (List Int)} {v : Nat} (h : v < ll.length) : (rowsI ll)[v]? = some ((ll.getD v []).map encN) := by
  unfold rowsI; rw [List.getElem?_map, List.getD_eq_getElem?_getD, List.getElem?_eq_getElem h]; rfl
theorem rowsI_nil (n : Nat) : rowsI (List.replicate n []) = List.replicate n [] := by simp [rowsI]
def parC (a : Nat) (d : List Int) (e : Edg) : Bool := decide (e.t ≠ (a : Int)) && decide (gt0 d e.f.toNat ≠ -1) && decide (gt0 d e.f.toNat + e.c = gt0 d e.t.toNat)
def parE (es : List Edg) (a : Nat) (d : List Int) (v : Nat) : List Int := (es.filter fun e => parC a d e && decide (e.t = (v : Int))).map (·.f)
def parL (es : List Edg) (a : Nat) (d : List Int) (n : Nat) : List (List Int) := (List.range n).map (parE es a d)
theorem parE_succ {es : List Edg} {i a : Nat} {d : List Int} (h : i < es.length) (v : Nat) : parE (es.take (i + 1)) a d v = parE (es.take i) a d v ++ if parC a d es[i] = true ∧ es[i].t = (v : Int) then [es[i].f] else [] := by
  unfold parE
  rw [← List.take_append_getElem h, List.filter_append, List.map_append]
  congr 1
  by_cases e : parC a d es[i] = true ∧ es[i].t = (v : Int)
  · rw [if_pos e]; simp [e.1, e.2]
  · rw [if_neg e]
    have : (parC a d es[i] && decide (es[i].t = (v : Int))) = false := by
      rw [Bool.eq_false_iff]; intro h; exact e (by simpa using h)
    simp [this]
theorem parL_len (es : List Edg) (a : Nat) (d : List Int) (n : Nat) : (parL es a d n).length = n := rng_len n _
theorem parL_get (es : List Edg) (a : Nat) (d : List Int) {n v : Nat} (h : v < n) : (parL es a d n).getD v [] = parE es a d v := by
  rw [List.getD_eq_getElem?_getD]; unfold parL; rw [rng_get n _ v h]; rfl
theorem parL_yes {es : List Edg} {i a n : Nat} {d : List Int} (h : i < es.length) (h0 : 0 ≤ es[i].t) (hc : parC a d es[i] = true) : (parL (es.take i) a d n).set es[i].t.toNat (parE (es.take i) a d es[i].t.toNat ++ [es[i].f]) = parL (es.take (i + 1)) a d n := by
  refine rng_set n _ _ _ _ ?_ fun w hw => ?_
  · rw [parE_succ h, if_pos ⟨hc, by omega⟩]
  · rw [parE_succ h, if_neg (by omega), List.append_nil]
theorem parL_no {es : List Edg} {i a n : Nat} {d : List Int} (h : i < es.length) (hc : ¬ parC a d es[i] = true) : parL (es.take i) a d n = parL (es.take (i + 1)) a d n := by
  unfold parL
  refine List.map_congr_left fun v _ => ?_
  rw [parE_succ h, if_neg (fun e => hc e.1), List.append_nil]
theorem parL_nil (a : Nat) (d : List Int) (n : Nat) : parL [] a d n = List.replicate n [] := (rng_const n _).symm
end Go.Pl
namespace Go.Proofs.Ytgbfkpcigipniaa
open Go Go.RT Go.Proofs Go.Pl
set_option linter.all false
set_option maxRecDepth 20000
set_option maxHeartbeats 2000000
theorem parents_c (g : Gr) (a : Nat) (d : List Int) (hg : checkI g = 0) (hd : d.length = (g.r + g.n).toNat) (hD : ∀ v, v < (g.r + g.n).toNat → -1 ≤ gt0 d v ∧ gt0 d v ≤ 10000000) : Pure Try.prog 29 [.agg (encG g), If .i64 a, VI d] (VLL (parL g.es a d (g.r + g.n).toNat)) := by
  obtain ⟨vg, hr0, hn0⟩ := checkI_vg hg
  have hn := vg.n128
  have hel := vg.e1024
  generalize hN : (g.r + g.n).toNat = n at *
  refine Meets.intro Try.func29 rfl (Nat.le_of_ble_eq_true rfl) fun C hC => ?_
  simp only [List.map, argEnv, Nat.reduceAdd]
  refine nK2 ?_
  refine s_reg rfl ?_
  first | refine Run.eff (dd := some 3) rfl rfl (op_box_flat rfl (Opd.tmp _ _ rfl) tC rfl) ?_ | refine Run.eff (dd := some 3) rfl rfl (op_box_refs rfl (Opd.tmp _ _ rfl) tP rfl) ?_
  first | refine Run.pure (dd := some 6) rfl rfl (op_assign rfl (Opd.const _)) ?_ | refine Run.pure (dd := some 6) rfl rfl (op_junk (.inr rfl)) ?_
  refine Run.nil (FinR.mk ?_)
  refine nK2 ?_
  refine s_reg rfl ?_
  first | refine Run.pure (dd := some 10) rfl rfl (op_move rfl (Opd.tmp _ _ rfl)) ?_ | refine Run.pure (dd := some 10) rfl rfl (op_junk (.inl rfl)) ?_
  first | refine Run.pure (dd := some 11) rfl rfl (op_len_fz rfl (by first | exact Opd.tmp _ _ rfl | exact Opd.nil _ _ (Opd.tmp _ _ rfl)) (by first | exact List.length_map _ | rfl)) ?_ | refine Run.pure (dd := some 11) rfl rfl (op_len_sl rfl (Opd.tmp _ _ rfl)) ?_
  refine Run.eff (dd := some 12) rfl rfl (op_make (l := n) (c := n) rfl (Opd.tmp _ _ rfl) (Opd.tmp _ _ rfl) rfl rfl rfl rfl (by intro _; rw [hd]; refine ⟨rfl, rfl, ?_⟩; omega)) ?_
  first | refine Run.pure (dd := some 7) rfl rfl (op_assign rfl (Opd.tmp _ _ rfl)) ?_ | refine Run.pure (dd := some 7) rfl rfl (op_junk (.inr rfl)) ?_
  refine Run.nil (FinR.mk ?_)
  refine nK2 ?_
  refine Next.toOwn 1 1 n rfl ?_
  refine Next.weak [0, 1] [] (by rfl) (keepsN hC _ rfl) (G' := [(1, IV .i64 a), (2, .fz (VI d)), (3, .ptr 0 3 0 0), (7, .sl 1 1 0 n)]) (H' := [(0, OG g), (1, some (.refs 1 (ownL 1 (rowsI (parL [] a d n)))))]) (by repeat (first | exact trivial | refine ⟨⟨_, rfl, .inl ⟨rfl, rfl⟩⟩, ?_⟩ | refine ⟨⟨_, rfl, .inl ⟨slEq rfl tN, rfl⟩⟩, ?_⟩ | refine ⟨⟨_, rfl, .inl ⟨ivEq tX, rfl⟩⟩, ?_⟩)) (by exact ⟨ent_same rfl rfl rfl tL, ⟨ent_own rfl rfl (by rw [parL_nil, rowsI_nil, ← ownL_rep]; rfl), trivial⟩⟩) (fun _ h => by simp at h) ?_
  refine nK2 ?_
  refine s_reg rfl ?_
  first | refine Run.pure (dd := some 13) rfl rfl (op_fld_ptr (by decide) rfl (Opd.tmp _ _ rfl)) ?_ | refine Run.pure (dd := some 13) rfl rfl (op_fld_fz (by decide) rfl (Opd.tmp _ _ rfl) tR) ?_
  first | refine Run.load (dd := some 14) rfl rfl (op_load1_flat rfl (Opd.tmp _ _ rfl) tH rfl) ?_ | refine Run.pure (dd := some 14) rfl rfl (op_load1_fz rfl (Opd.tmp _ _ rfl) rfl) ?_ | refine Run.load (dd := some 14) rfl rfl (op_load1_refs rfl (Opd.tmp _ _ rfl) tH rfl) ?_
  first | refine Run.pure (dd := some 15) rfl rfl (op_len_fz rfl (by first | exact Opd.tmp _ _ rfl | exact Opd.nil _ _ (Opd.tmp _ _ rfl)) (by first | exact List.length_map _ | rfl)) ?_ | refine Run.pure (dd := some 15) rfl rfl (op_len_sl rfl (Opd.tmp _ _ rfl)) ?_
  first | refine Run.pure (dd := some 16) rfl rfl (op_move rfl (Opd.const _)) ?_ | refine Run.pure (dd := some 16) rfl rfl (op_junk (.inl rfl)) ?_
  refine Run.nil (FinR.mk ?_)
  refine nK2 ?_
  refine n_loop (ι := Nat) (fun i => ([(1, IV .i64 a), (2, .fz (VI d)), (7, .sl 0 1 0 n), (14, .fz (VE g.es)), (15, IV .i64 g.es.length), (16, IV .i64 i)], [(0, some (.refs 1 (ownL 1 (rowsI (parL (g.es.take i) a d n)))))], 1)) (fun i => i ≤ g.es.length) (fun i => g.es.length - i) 0 (Nat.zero_le _) ?_ ?_
  · refine Next.weak [1] [] (by rfl) (keepsN hC _ rfl) (by repeat (first | exact trivial | refine ⟨⟨_, rfl, .inl ⟨rfl, rfl⟩⟩, ?_⟩ | refine ⟨⟨_, rfl, .inl ⟨slEq rfl tN, rfl⟩⟩, ?_⟩ | refine ⟨⟨_, rfl, .inl ⟨ivEq tX, rfl⟩⟩, ?_⟩)) (by exact ⟨ent_own rfl rfl rfl, trivial⟩) (fun _ h => by simp at h) rel_intro
  · intro i hi K hK
    try dsimp only at hi ⊢
    refine nK2 ?_
    refine s_reg rfl ?_
    refine Run.pure (dd := some 17) rfl rfl (op_lss rfl (Opd.tmp _ _ rfl) (Opd.tmp _ _ rfl)) ?_
    refine Run.nil (FinR.mk ?_)
    refine nK2 ?_
    refine n_cond _ rfl (fun hb => ?_) (fun hb => ?_)
    · have hlt : i < g.es.length := by simp at hb; omega
      have hr1 := row_at' encE g.es i hlt
      have hef := vg.f _ (List.getElem_mem hlt)
      have het := vg.t _ (List.getElem_mem hlt)
      have hec := vg.c _ (List.getElem_mem hlt)
      have hyes := parL_yes (n := n) (a := a) (d := d) hlt het.1
      have hno := parL_no (n := n) (a := a) (d := d) hlt
      have hgt := parL_get (g.es.take i) a d (n := n) (v := g.es[i].t.toNat) (by omega)
      have hpl := parL_len (g.es.take i) a d n
      have hlen : (parE (g.es.take i) a d g.es[i].t.toNat).length ≤ 1024 := by
        have h1 : (parE (g.es.take i) a d g.es[i].t.toNat).length ≤ (g.es.take i).length := by unfold parE; rw [List.length_map]; exact List.length_filter_le _ _
        have h2 : (g.es.take i).length ≤ g.es.length := List.length_take_le' _ _
        omega
      have hK1 := hK (i + 1) (by omega) (by omega)
      generalize parL (g.es.take (i + 1)) a d n = ll2 at *
      generalize parL (g.es.take i) a d n = ll at *
      have hrg := rowsI_get (ll := ll) (v := g.es[i].t.toNat) (by omega)
      rw [hgt] at hrg
      generalize parE (g.es.take i) a d g.es[i].t.toNat = row at *
      generalize g.es[i] = e at *
      have hrf := row_of encN d e.f.toNat 0 (by omega)
      have hrt := row_of encN d e.t.toNat 0 (by omega)
      have hDf := hD e.f.toNat (by omega)
      have hgf : d.getD e.f.toNat 0 = gt0 d e.f.toNat := rfl
      have hgt2 : d.getD e.t.toNat 0 = gt0 d e.t.toNat := rfl
      rw [hgf] at hrf; rw [hgt2] at hrt
      refine nK2 ?_
      refine s_reg rfl ?_
      first | refine Run.pure (dd := some 18) rfl rfl (op_idx_sl0 _ rfl (Opd.tmp _ _ rfl) (Opd.tmp _ _ rfl) tD) ?_ | refine Run.pure (dd := some 18) rfl rfl (op_idx_fz _ rfl (Opd.tmp _ _ rfl) (Opd.tmp _ _ rfl) tF) ?_
      first | refine Run.load (dd := some 19) rfl rfl (op_loadw_flat rfl (Opd.tmp _ _ rfl) tH rfl) ?_ | refine Run.pure (dd := some 19) rfl rfl (op_loadw_fz rfl (Opd.tmp _ _ rfl) rfl) ?_ | refine Run.load (dd := some 19) rfl rfl (op_loadn_flat rfl (Opd.tmp _ _ rfl) tH tR tR) ?_ | refine Run.pure (dd := some 19) rfl rfl (op_loadn_fz rfl (Opd.tmp _ _ rfl) tR) ?_ | refine Run.load (dd := some 19) rfl rfl (op_loadn_refs rfl (Opd.tmp _ _ rfl) tH tR tR) ?_
      refine Run.eff (dd := some 9) rfl rfl (op_alloc rfl rfl rfl rfl) ?_
      first | refine Run.eff (dd := none) rfl rfl (op_store_flat rfl (Opd.tmp _ _ rfl) (Opd.tmp _ _ rfl) tC rfl rfl (by first | rfl | assumption) tS) ?_ | refine Run.eff (dd := none) rfl rfl (op_store_refs rfl (Opd.tmp _ _ rfl) (Opd.tmp _ _ rfl) tP rfl rfl rfl tS) ?_
      refine Run.nil (FinR.mk ?_)
      refine nK2 ?_
      refine s_draw mixed ?_
      first | refine Run.pure (dd := some 20) rfl rfl (op_fld_ptr (by decide) rfl (Opd.tmp _ _ rfl)) ?_ | refine Run.pure (dd := some 20) rfl rfl (op_fld_fz (by decide) rfl (Opd.tmp _ _ rfl) tR) ?_
      first | refine Run.load (dd := some 21) rfl rfl (op_load1_flat rfl (Opd.tmp _ _ rfl) tH rfl) ?_ | refine Run.pure (dd := some 21) rfl rfl (op_load1_fz rfl (Opd.tmp _ _ rfl) rfl) ?_ | refine Run.load (dd := some 21) rfl rfl (op_load1_refs rfl (Opd.tmp _ _ rfl) tH rfl) ?_
      first | refine Run.pure (dd := some 22) rfl rfl (op_move rfl (Opd.tmp _ _ rfl)) ?_ | refine Run.pure (dd := some 22) rfl rfl (op_junk (.inl rfl)) ?_
      refine Run.pure (dd := some 23) rfl rfl (op_neq rfl (Opd.tmp _ _ rfl) (Opd.tmp _ _ rfl)) ?_
      first | refine Run.pure (dd := some 24) rfl rfl (op_move rfl (Opd.tmp _ _ rfl)) ?_ | refine Run.pure (dd := some 24) rfl rfl (op_junk (.inl rfl)) ?_
      first | refine Run.pureG (dd := some 25) rfl rfl rfl tG (op_move rfl (Opd.tmp _ _ rfl)) ?_ | refine Run.pureG (dd := some 25) rfl rfl rfl tG (op_junk (.inl rfl)) ?_
      first | refine Run.pureG (dd := some 26) rfl rfl rfl tG (op_fld_ptr (by decide) rfl (Opd.tmp _ _ rfl)) ?_ | refine Run.pureG (dd := some 26) rfl rfl rfl tG (op_fld_fz (by decide) rfl (Opd.tmp _ _ rfl) tR) ?_
      first | refine Run.loadG (dd := some 27) rfl rfl rfl tG (op_load1_flat rfl (Opd.topt _ _ _ rfl tO) tH rfl) ?_ | refine Run.pureG (dd := some 27) rfl rfl rfl tG (op_load1_fz rfl (Opd.topt _ _ _ rfl tO) rfl) ?_ | refine Run.loadG (dd := some 27) rfl rfl rfl tG (op_load1_refs rfl (Opd.topt _ _ _ rfl tO) tH rfl) ?_
      refine Run.pureG (dd := some 28) rfl rfl rfl tG (op_idx_fz e.f.toNat rfl (Opd.topt _ _ _ rfl tO) (Opd.topt _ _ _ rfl tO) (by intro _; exact ⟨by omega, hrf⟩)) ?_
      first | refine Run.loadG (dd := some 29) rfl rfl rfl tG (op_load1_flat rfl (Opd.topt _ _ _ rfl tO) tH rfl) ?_ | refine Run.pureG (dd := some 29) rfl rfl rfl tG (op_load1_fz rfl (Opd.topt _ _ _ rfl tO) rfl) ?_ | refine Run.loadG (dd := some 29) rfl rfl rfl tG (op_load1_refs rfl (Opd.topt _ _ _ rfl tO) tH rfl) ?_
      refine Run.pureG (dd := some 30) rfl rfl rfl tG (op_neq rfl (Opd.topt _ _ _ rfl tO) (Opd.const _)) ?_
      refine Run.pure (dd := some 31) rfl rfl (op_pick_and rfl (Opd.tmp _ _ rfl) (Opd.topt _ _ _ rfl tO)) ?_
      first | refine Run.pure (dd := some 32) rfl rfl (op_move rfl (Opd.tmp _ _ rfl)) ?_ | refine Run.pure (dd := some 32) rfl rfl (op_junk (.inl rfl)) ?_
      first | refine Run.pureG (dd := some 33) rfl rfl rfl tG (op_move rfl (Opd.tmp _ _ rfl)) ?_ | refine Run.pureG (dd := some 33) rfl rfl rfl tG (op_junk (.inl rfl)) ?_
      first | refine Run.pureG (dd := some 34) rfl rfl rfl tG (op_fld_ptr (by decide) rfl (Opd.tmp _ _ rfl)) ?_ | refine Run.pureG (dd := some 34) rfl rfl rfl tG (op_fld_fz (by decide) rfl (Opd.tmp _ _ rfl) tR) ?_
      first | refine Run.loadG (dd := some 35) rfl rfl rfl tG (op_load1_flat rfl (Opd.topt _ _ _ rfl tO) tH rfl) ?_ | refine Run.pureG (dd := some 35) rfl rfl rfl tG (op_load1_fz rfl (Opd.topt _ _ _ rfl tO) rfl) ?_ | refine Run.loadG (dd := some 35) rfl rfl rfl tG (op_load1_refs rfl (Opd.topt _ _ _ rfl tO) tH rfl) ?_
      refine Run.pureG (dd := some 36) rfl rfl rfl tG (op_idx_fz e.f.toNat rfl (Opd.topt _ _ _ rfl tO) (Opd.topt _ _ _ rfl tO) (by intro _; exact ⟨by omega, hrf⟩)) ?_
      first | refine Run.loadG (dd := some 37) rfl rfl rfl tG (op_load1_flat rfl (Opd.topt _ _ _ rfl tO) tH rfl) ?_ | refine Run.pureG (dd := some 37) rfl rfl rfl tG (op_load1_fz rfl (Opd.topt _ _ _ rfl tO) rfl) ?_ | refine Run.loadG (dd := some 37) rfl rfl rfl tG (op_load1_refs rfl (Opd.topt _ _ _ rfl tO) tH rfl) ?_
      first | refine Run.pureG (dd := some 38) rfl rfl rfl tG (op_fld_ptr (by decide) rfl (Opd.tmp _ _ rfl)) ?_ | refine Run.pureG (dd := some 38) rfl rfl rfl tG (op_fld_fz (by decide) rfl (Opd.tmp _ _ rfl) tR) ?_
      first | refine Run.loadG (dd := some 39) rfl rfl rfl tG (op_load1_flat rfl (Opd.topt _ _ _ rfl tO) tH rfl) ?_ | refine Run.pureG (dd := some 39) rfl rfl rfl tG (op_load1_fz rfl (Opd.topt _ _ _ rfl tO) rfl) ?_ | refine Run.loadG (dd := some 39) rfl rfl rfl tG (op_load1_refs rfl (Opd.topt _ _ _ rfl tO) tH rfl) ?_
      refine Run.pureG (dd := some 40) rfl rfl rfl tG (op_add rfl (Opd.topt _ _ _ rfl tO) (Opd.topt _ _ _ rfl tO) tI) ?_
      first | refine Run.pureG (dd := some 41) rfl rfl rfl tG (op_move rfl (Opd.tmp _ _ rfl)) ?_ | refine Run.pureG (dd := some 41) rfl rfl rfl tG (op_junk (.inl rfl)) ?_
      first | refine Run.pureG (dd := some 42) rfl rfl rfl tG (op_fld_ptr (by decide) rfl (Opd.tmp _ _ rfl)) ?_ | refine Run.pureG (dd := some 42) rfl rfl rfl tG (op_fld_fz (by decide) rfl (Opd.tmp _ _ rfl) tR) ?_
      first | refine Run.loadG (dd := some 43) rfl rfl rfl tG (op_load1_flat rfl (Opd.topt _ _ _ rfl tO) tH rfl) ?_ | refine Run.pureG (dd := some 43) rfl rfl rfl tG (op_load1_fz rfl (Opd.topt _ _ _ rfl tO) rfl) ?_ | refine Run.loadG (dd := some 43) rfl rfl rfl tG (op_load1_refs rfl (Opd.topt _ _ _ rfl tO) tH rfl) ?_
      refine Run.pureG (dd := some 44) rfl rfl rfl tG (op_idx_fz e.t.toNat rfl (Opd.topt _ _ _ rfl tO) (Opd.topt _ _ _ rfl tO) (by intro _; exact ⟨by omega, hrt⟩)) ?_
      first | refine Run.loadG (dd := some 45) rfl rfl rfl tG (op_load1_flat rfl (Opd.topt _ _ _ rfl tO) tH rfl) ?_ | refine Run.pureG (dd := some 45) rfl rfl rfl tG (op_load1_fz rfl (Opd.topt _ _ _ rfl tO) rfl) ?_ | refine Run.loadG (dd := some 45) rfl rfl rfl tG (op_load1_refs rfl (Opd.topt _ _ _ rfl tO) tH rfl) ?_
      refine Run.pureG (dd := some 46) rfl rfl rfl tG (op_eql rfl (Opd.topt _ _ _ rfl tO) (Opd.topt _ _ _ rfl tO)) ?_
      refine Run.pure (dd := some 47) rfl rfl (op_pick_and rfl (Opd.tmp _ _ rfl) (Opd.topt _ _ _ rfl tO)) ?_
      refine Run.nil (FinD.mk (by kernel_rfl) ?_)
      refine nK2 ?_
      refine n_cond _ rfl (fun hb => ?_) (fun hb => ?_)
      · rw [← hyes hb] at hK1
        refine nK2 ?_
        refine Next.take 0 e.t.toNat 0 rfl (ownL_get hrg) rfl rfl ?_
        have hs1 := set_get (ownL 1 (rowsI ll)) e.t.toNat [.sl 2 1 0 (row.map encN).length] (by rw [ownL_len, rowsI_len, hpl]; omega)
        refine nK2 ?_
        refine s_draw mixed ?_
        first | refine Run.pure (dd := some 48) rfl rfl (op_move rfl (Opd.tmp _ _ rfl)) ?_ | refine Run.pure (dd := some 48) rfl rfl (op_junk (.inl rfl)) ?_
        first | refine Run.pure (dd := some 49) rfl rfl (op_fld_ptr (by decide) rfl (Opd.tmp _ _ rfl)) ?_ | refine Run.pure (dd := some 49) rfl rfl (op_fld_fz (by decide) rfl (Opd.tmp _ _ rfl) tR) ?_
        first | refine Run.load (dd := some 50) rfl rfl (op_load1_flat rfl (Opd.tmp _ _ rfl) tH rfl) ?_ | refine Run.pure (dd := some 50) rfl rfl (op_load1_fz rfl (Opd.tmp _ _ rfl) rfl) ?_ | refine Run.load (dd := some 50) rfl rfl (op_load1_refs rfl (Opd.tmp _ _ rfl) tH rfl) ?_
        first | refine Run.pure (dd := some 51) rfl rfl (op_move rfl (Opd.tmp _ _ rfl)) ?_ | refine Run.pure (dd := some 51) rfl rfl (op_junk (.inl rfl)) ?_
        first | refine Run.pure (dd := some 52) rfl rfl (op_fld_ptr (by decide) rfl (Opd.tmp _ _ rfl)) ?_ | refine Run.pure (dd := some 52) rfl rfl (op_fld_fz (by decide) rfl (Opd.tmp _ _ rfl) tR) ?_
        first | refine Run.load (dd := some 53) rfl rfl (op_load1_flat rfl (Opd.tmp _ _ rfl) tH rfl) ?_ | refine Run.pure (dd := some 53) rfl rfl (op_load1_fz rfl (Opd.tmp _ _ rfl) rfl) ?_ | refine Run.load (dd := some 53) rfl rfl (op_load1_refs rfl (Opd.tmp _ _ rfl) tH rfl) ?_
        refine Run.pure (dd := some 54) rfl rfl (op_idx_sl0 e.t.toNat rfl (Opd.tmp _ _ rfl) (Opd.tmp _ _ rfl) (by intro _; omega)) ?_
        refine Run.load (dd := some 55) rfl rfl (op_load1_refs rfl (Opd.tmp _ _ rfl) (by intro _; exact ⟨rfl, hs1⟩) rfl) ?_
        first | refine Run.pure (dd := some 56) rfl rfl (op_fld_ptr (by decide) rfl (Opd.tmp _ _ rfl)) ?_ | refine Run.pure (dd := some 56) rfl rfl (op_fld_fz (by decide) rfl (Opd.tmp _ _ rfl) tR) ?_
        first | refine Run.load (dd := some 57) rfl rfl (op_load1_flat rfl (Opd.tmp _ _ rfl) tH rfl) ?_ | refine Run.pure (dd := some 57) rfl rfl (op_load1_fz rfl (Opd.tmp _ _ rfl) rfl) ?_ | refine Run.load (dd := some 57) rfl rfl (op_load1_refs rfl (Opd.tmp _ _ rfl) tH rfl) ?_
        refine Run.pure (dd := some 58) rfl rfl (op_buildSlice_fz rfl (RowsF.cons _ _ _ _ _ _ (Opd.tmp _ _ rfl) tC (by rfl) (RowsF.nil _)) rfl rfl) ?_
        first | refine Run.effW (dd := some 59) rfl rfl (op_append_own0 rfl (Opd.tmp _ _ rfl) (Opd.tmp _ _ rfl) rfl (by first | rfl | simp) rfl (by first | rfl | simp) rfl rfl tB tB) (by first | exact ext_call | exact tE) ?_ | refine Run.effW (dd := some 59) rfl rfl (op_append rfl (Opd.tmp _ _ rfl) (by first | exact Opd.tmp _ _ rfl | exact Opd.nil _ _ (Opd.tmp _ _ rfl)) rfl (by first | rfl | simp) rfl rfl tB tB) (by first | exact ext_call | exact tE) ?_
        refine Run.pure (dd := some 60) rfl rfl (op_idx_sl0 e.t.toNat rfl (Opd.tmp _ _ rfl) (Opd.tmp _ _ rfl) (by intro _; omega)) ?_
        refine Run.effW (dd := none) rfl rfl (op_store_refs rfl (Opd.tmp _ _ rfl) (Opd.tmp _ _ rfl) tP rfl rfl hs1 tS) (by first | exact ext_call | exact tE) ?_
        refine Run.nil (FinD.mk (by kernel_rfl) ?_)
        refine nK2 ?_
        refine s_reg rfl ?_
        refine Run.pure (dd := some 61) rfl rfl (op_add rfl (Opd.tmp _ _ rfl) (Opd.const _) tI) ?_
        first | refine Run.pure (dd := some 16) rfl rfl (op_move rfl (Opd.tmp _ _ rfl)) ?_ | refine Run.pure (dd := some 16) rfl rfl (op_junk (.inl rfl)) ?_
        refine Run.nil (FinR.mk ?_)
        refine nK2 ?_
        refine Next.untake 0 e.t.toNat 0 rfl (set_get _ _ _ (by rw [List.length_set, ownL_len, rowsI_len, hpl]; omega)) rfl rfl (by simp) rfl ?_
        refine Next.weak [0] [] (by rfl) (keepsN hC _ rfl) (by repeat (first | exact trivial | refine ⟨⟨_, rfl, .inl ⟨rfl, rfl⟩⟩, ?_⟩ | refine ⟨⟨_, rfl, .inl ⟨slEq rfl tN, rfl⟩⟩, ?_⟩ | refine ⟨⟨_, rfl, .inl ⟨ivEq tX, rfl⟩⟩, ?_⟩)) (by exact ⟨ent_own rfl rfl (congrArg (fun r => some (Ob.refs 1 r)) (own_back.trans (congrArg _ (by rw [← rowsI_set, List.map_append]; rfl)))), trivial⟩) (fun _ h => by simp at h) hK1
      · rw [← hno (by rw [Bool.not_eq_true]; exact hb)] at hK1
        refine nK2 ?_
        refine s_reg rfl ?_
        refine Run.pure (dd := some 61) rfl rfl (op_add rfl (Opd.tmp _ _ rfl) (Opd.const _) tI) ?_
        first | refine Run.pure (dd := some 16) rfl rfl (op_move rfl (Opd.tmp _ _ rfl)) ?_ | refine Run.pure (dd := some 16) rfl rfl (op_junk (.inl rfl)) ?_
        refine Run.nil (FinR.mk ?_)
        refine nK2 ?_
        refine Next.weak [0] [] (by rfl) (keepsN hC _ rfl) (by repeat (first | exact trivial | refine ⟨⟨_, rfl, .inl ⟨rfl, rfl⟩⟩, ?_⟩ | refine ⟨⟨_, rfl, .inl ⟨slEq rfl tN, rfl⟩⟩, ?_⟩ | refine ⟨⟨_, rfl, .inl ⟨ivEq tX, rfl⟩⟩, ?_⟩)) (by exact ⟨ent_own rfl rfl rfl, trivial⟩) (fun _ h => by simp at h) hK1
    · have hge : i = g.es.length := by simp at hb; omega
      subst hge
      rw [List.take_length]
      refine Next.freezeOwn 0 rfl rfl ?_
      refine nK2 ?_
      refine s_reg rfl ?_
      first | refine Run.pure (dd := some 62) rfl rfl (op_move rfl (Opd.tmp _ _ rfl)) ?_ | refine Run.pure (dd := some 62) rfl rfl (op_junk (.inl rfl)) ?_
      first | refine Run.pure (dd := some 6) rfl rfl (op_assign rfl (Opd.tmp _ _ rfl)) ?_ | refine Run.pure (dd := some 6) rfl rfl (op_junk (.inr rfl)) ?_
      refine Run.nil (FinR.mk ?_)
      refine nK2 ?_
      have hFl : (fzL 1 (rowsI (parL g.es a d n))).length = n := by rw [fzL_len, rowsI_len, parL_len]
      refine Next.weakS [] [6] (by rfl) (keeps0 hC _) (G' := [(6, .fz (VLL (parL g.es a d n)))]) (H' := []) ⟨⟨_, rfl, .inr ⟨_, rfl, .sl _ _ _ _ _ _ rfl rfl ((take_all0 hFl).trans (fz_rowsI _)) (by rw [← fz_rowsI, hFl])⟩⟩, trivial⟩ trivial rfl ?_
      exact n_out1 rfl (by rfl) rfl rfl
end Go.Proofs.Ytgbfkpcigipniaa
/- The reference's search: passes over all edges. -/
namespace Go.Pl
open Go.RT
set_option linter.all false
/-- one edge of a pass -/
def passE (out : List Bool) (e : Edg) : List Bool := if out[e.f.toNat]? = some true then out.set e.t.toNat true else out
def pass (es : List Edg) (out : List Bool) : List Bool := es.foldl passE out
theorem passE_len (out : List Bool) (e : Edg) : (passE out e).length = out.length := by unfold passE; split <;> simp
theorem pass_len : ∀ (es : List Edg) (out : List Bool), (pass es out).length = out.length
  | [], out => rfl
  | e :: es, out => by
    show (pass es (passE out e)).length = _
    rw [pass_len es, passE_len]
theorem passE_mono {out : List Bool} {e : Edg} {v : Nat} (h : out[v]? = some true) : (passE out e)[v]? = some true := by
  unfold passE; split
  · exact set_true h
  · exact h
theorem pass_mono : ∀ {es : List Edg} {out : List Bool} {v : Nat}, out[v]? = some true → (pass es out)[v]? = some true
  | [], out, v, h => h
  | e :: es, out, v, h => pass_mono (es := es) (passE_mono h)
theorem cntT_cons (x : Bool) (l : List Bool) : cntT (x :: l) = cntT l + if x = true then 1 else 0 := by
  unfold cntT; rw [List.countP_cons]; cases x <;> rfl
theorem cnt_mono : ∀ {a b : List Bool}, a.length = b.length → (∀ v : Nat, a[v]? = some true → b[v]? = some true) → cntT a ≤ cntT b ∧ (cntT a = cntT b → a = b)
  | [], [], _, _ => ⟨Nat.le_refl _, fun _ => rfl⟩
  | [], _ :: _, h, _ => by simp at h
  | _ :: _, [], h, _ => by simp at h
  | x :: a, y :: b, hl, h => by
    obtain ⟨i1, i2⟩ := cnt_mono (a := a) (b := b) (by simpa using hl) (fun v hv => by simpa using h (v + 1) (by simpa using hv))
    have h0 := h 0
    simp only [List.getElem?_cons_zero, Option.some.injEq] at h0
    rw [cntT_cons, cntT_cons]
    cases x <;> cases y
    · exact ⟨by simpa using i1, fun hh => by rw [i2 (by simpa using hh)]⟩
    · exact ⟨by simp; omega, fun hh => by simp at hh; omega⟩
    · simp at h0
    · exact ⟨by simpa using i1, fun hh => by rw [i2 (by simpa using hh)]⟩
/-- a pass that changes nothing: closed under the edges -/
theorem pass_fix : ∀ {es : List Edg} {out : List Bool}, pass es out = out → (∀ e ∈ es, 0 ≤ e.t ∧ e.t.toNat < out.length) → ∀ e ∈ es, out[e.f.toNat]? = some true → out[e.t.toNat]? = some true := by
  intro es out h hin
  -- every prefix of the pass leaves the list as it is
  have key : ∀ (es : List Edg) (out o : List Bool), o.length = out.length → (∀ v : Nat, out[v]? = some true → o[v]? = some true) → pass es o = out → (∀ e ∈ es, 0 ≤ e.t ∧ e.t.toNat < out.length) → o = out ∧ ∀ e ∈ es, out[e.f.toNat]? = some true → out[e.t.toNat]? = some true := by
    intro es
    induction es with
    | nil => intro out o _ _ h _; exact ⟨h, fun e he => by cases he⟩
    | cons e es ih =>
      intro out o hl hm hp hin
      have hp' : pass es (passE o e) = out := hp
      obtain ⟨i1, i2⟩ := ih out (passE o e) (by rw [passE_len]; exact hl) (fun v hv => passE_mono (hm v hv)) hp' (fun e' he' => hin e' (List.mem_cons_of_mem _ he'))
      have hle : ∀ v : Nat, o[v]? = some true → out[v]? = some true := fun v hv => by rw [← i1]; exact passE_mono hv
      have hoe : o = out := by
        have c1 := (cnt_mono hl hle)
        have c2 := (cnt_mono hl.symm hm)
        exact c1.2 (Nat.le_antisymm c1.1 c2.1)
      refine ⟨hoe, fun e' he' hf => ?_⟩
      rcases List.mem_cons.1 he' with rfl | he'
      · subst hoe
        unfold passE at i1
        rw [if_pos hf] at i1
        have := hin e' (List.mem_cons_self ..)
        rw [← i1, List.getElem?_set, if_pos rfl, if_pos this.2]
      · exact i2 e' he' hf
  exact (key es out out rfl (fun v h => h) h hin).2
/-- what the passes keep -/
structure Pas (g : Gr) (a : Int) (out : List Bool) : Prop where
  len : out.length = (g.r + g.n).toNat
  from_ : out[a.toNat]? = some true
  sound : ∀ v : Nat, out[v]? = some true → Rch g.es a (v : Int)
theorem Pas.stepE {g : Gr} {a : Int} {out : List Bool} {e : Edg} (h : Pas g a out) (he : e ∈ g.es) (h0 : 0 ≤ e.f ∧ 0 ≤ e.t) : Pas g a (passE out e) := by
  refine ⟨by rw [passE_len]; exact h.len, passE_mono h.from_, fun v hv => ?_⟩
  unfold passE at hv
  split at hv
  · rename_i hf
    rw [List.getElem?_set] at hv
    split at hv
    · rename_i e2
      have := h.sound _ hf
      rw [Int.toNat_of_nonneg h0.1] at this
      rw [← e2, Int.toNat_of_nonneg h0.2]
      exact .step e he this
    · exact h.sound v hv
  · exact h.sound v hv
theorem Pas.pass {g : Gr} {a : Int} : ∀ {es : List Edg} {out : List Bool}, Pas g a out → (∀ e ∈ es, e ∈ g.es ∧ 0 ≤ e.f ∧ 0 ≤ e.t) → Pas g a (Pl.pass es out)
  | [], out, h, _ => h
  | e :: es, out, h, he => Pas.pass (es := es) (h.stepE (he e (List.mem_cons_self ..)).1 (he e (List.mem_cons_self ..)).2) (fun e' h' => he e' (List.mem_cons_of_mem _ h'))
/-- after k passes: closed, or more than k nodes marked -/
def Far (g : Gr) (out : List Bool) (k : Nat) : Prop := (∀ e ∈ g.es, out[e.f.toNat]? = some true → out[e.t.toNat]? = some true) ∨ k + 1 ≤ cntT out
theorem Far.next {g : Gr} {out : List Bool} {k : Nat} (h : Far g out k) (hin : ∀ e ∈ g.es, 0 ≤ e.t ∧ e.t.toNat < out.length) : Far g (pass g.es out) (k + 1) := by
  by_cases hf : pass g.es out = out
  · rw [hf]; exact .inl (pass_fix hf hin)
  · have hc := cnt_mono (a := out) (b := pass g.es out) (pass_len _ _).symm (fun v => pass_mono)
    have hlt : cntT out < cntT (pass g.es out) := by
      rcases Nat.lt_or_ge (cntT out) (cntT (pass g.es out)) with h1 | h1
      · exact h1
      · exact absurd (hc.2 (by omega)).symm hf
    rcases h with h | h
    · -- closed already: a pass changes nothing
      exfalso
      apply hf
      have : ∀ (es : List Edg), (∀ e ∈ es, e ∈ g.es) → pass es out = out := by
        intro es
        induction es with
        | nil => exact fun _ => rfl
        | cons e es ih =>
          intro hes
          have hee := hes e (List.mem_cons_self ..)
          have he : passE out e = out := by
            unfold passE
            split
            · rename_i ht
              have hh := h e hee ht
              obtain ⟨q1, q2⟩ := List.getElem?_eq_some_iff.1 hh
              rw [← q2]; exact List.set_getElem_self q1
            · rfl
          show pass es (passE out e) = out
          rw [he]; exact ih fun e' h' => hes e' (List.mem_cons_of_mem _ h')
      exact this g.es fun e h => h
    · exact .inr (by omega)
theorem pas_end {g : Gr} {a : Int} {out : List Bool} (hg : checkI g = 0) (ha : nodeB g a = true) (hp : Pas g a out) (hf : Far g out (g.r + g.n).toNat) : out = reachL g a := by
  have he := check_edges hg
  have ha2 : 0 ≤ a ∧ a < g.r + g.n := by simpa [nodeB] using ha
  have hc : ∀ e ∈ g.es, out[e.f.toNat]? = some true → out[e.t.toNat]? = some true := by
    rcases hf with h | h
    · exact h
    · have := cntT_le out; rw [hp.len] at this; omega
  refine reachL_of hp.len fun v hv => ⟨fun hb => hp.sound v hb, fun hr => ?_⟩
  have := closed_all ha2.1 hp.from_ (fun e hel => ⟨(he e hel).1.1, (he e hel).2.1⟩) hc _ hr
  simpa using this.2
end Go.Pl
/- The valid graph of edges, as the reference puts it together. -/
namespace Go.Pl
open Go.RT
set_option linter.all false
def ofStep (s : List Edg) (e : Edg) : List Edg :=
  match s[(fndI s e.f e.t).toNat]? with
  | some x => if fndI s e.f e.t < 0 then putR e false s else if e.c < x.c then s.set (fndI s e.f e.t).toNat ⟨x.f, x.t, e.c⟩ else s
  | none => putR e false s
theorem fnd_none (f t : Int) : ∀ (l : List Edg) (k : Nat), fndAt f t k l = -1 → ∀ x ∈ l, ¬ (x.f = f ∧ x.t = t)
  | [], _, _, x, hx => by cases hx
  | e :: l, k, h, x, hx => by
    simp only [fndAt] at h
    split at h
    · omega
    · rename_i hb
      rcases List.mem_cons.1 hx with rfl | hx
      · intro hc; apply hb; simp [isB, hc.1, hc.2]
      · exact fnd_none f t l (k + 1) h x hx
theorem fnd_some (f t : Int) : ∀ (l : List Edg) (k j : Nat) (h : j < l.length), fndAt f t k l = ((k + j : Nat) : Int) → l[j].f = f ∧ l[j].t = t
  | e :: l, k, j, hj, h => by
    simp only [fndAt] at h
    split at h
    · rename_i hb
      have : j = 0 := by omega
      subst this
      simpa [isB] using hb
    · cases j with
      | zero => rcases fndAt_rng f t l (k + 1) with h1 | ⟨j, _, h2⟩ <;> omega
      | succ j =>
        have := fnd_some f t l (k + 1) j (by simpa using hj) (by rw [h]; omega)
        simpa using this
theorem putR_true (e : Edg) : ∀ l, putR e true l = l
  | [] => rfl
  | x :: l => by simp [putR, putR_true e l]
theorem putR_spec (e : Edg) : ∀ (l : List Edg), AscK l → (∀ x ∈ l, ¬ (x.f = e.f ∧ x.t = e.t)) → AscK (putR e false l) ∧ ∀ x, x ∈ putR e false l ↔ x = e ∨ x ∈ l
  | [], _, _ => by simp [putR, AscK]
  | y :: l, h, hn => by
    obtain ⟨h1, h2⟩ := List.pairwise_cons.1 h
    have hy := hn y (List.mem_cons_self ..)
    by_cases hb : befB e y = true
    · have e1 : putR e false (y :: l) = e :: y :: l := by simp [putR, hb, putR_true]
      rw [e1]
      have hlt := (ltK_bef e y).1 hb
      refine ⟨List.pairwise_cons.2 ⟨fun x hx => ?_, h⟩, fun x => by simp⟩
      rcases List.mem_cons.1 hx with rfl | hx
      · exact hlt
      · have := h1 x hx; unfold ltK at *; omega
    · have hb2 : befB e y = false := by simpa using hb
      have e1 : putR e false (y :: l) = y :: putR e false l := by simp [putR, hb2]
      obtain ⟨i1, i2⟩ := putR_spec e l h2 (fun x hx => hn x (List.mem_cons_of_mem _ hx))
      rw [e1]
      have hlt : ltK y e := by
        have : ¬ ltK e y := fun hh => hb ((ltK_bef e y).2 hh)
        unfold ltK at *; omega
      refine ⟨List.pairwise_cons.2 ⟨fun x hx => ?_, i1⟩, fun x => by rw [List.mem_cons, i2, List.mem_cons]; constructor <;> (intro h; rcases h with h | h | h <;> simp [h])⟩
      rcases (i2 x).1 hx with rfl | hx
      · exact hlt
      · exact h1 x hx
theorem ofStep_least {l s : List Edg} {e : Edg} (h : Least l s) : Least (l ++ [e]) (ofStep s e) := by
  rcases fndAt_rng e.f e.t s 0 with h0 | ⟨j, hj, h0⟩
  · have hnone := fnd_none e.f e.t s 0 h0
    have hs : ofStep s e = putR e false s := by
      unfold ofStep
      have hlt : fndI s e.f e.t < 0 := by show fndAt e.f e.t 0 s < 0; omega
      split
      · rw [if_pos hlt]
      · rfl
    rw [hs]
    obtain ⟨p1, p2⟩ := putR_spec e s h.asc hnone
    refine ⟨p1, fun x hx => ?_, fun x hx y hy g1 g2 => ?_, fun y hy => ?_⟩
    · rcases (p2 x).1 hx with rfl | hx
      · simp
      · exact List.mem_append.2 (.inl (h.sub x hx))
    · rcases (p2 x).1 hx with rfl | hx2
      · rcases List.mem_append.1 hy with hy | hy
        · obtain ⟨z, hz, z1, z2⟩ := h.all y hy
          exact absurd ⟨by omega, by omega⟩ (hnone z hz)
        · have : y = x := by simpa using hy
          rw [this]; exact Int.le_refl _
      · rcases List.mem_append.1 hy with hy | hy
        · exact h.min x hx2 y hy g1 g2
        · have : y = e := by simpa using hy
          subst this
          exact absurd ⟨g1.symm, g2.symm⟩ (hnone x hx2)
    · rcases List.mem_append.1 hy with hy | hy
      · obtain ⟨z, hz, z1, z2⟩ := h.all y hy
        exact ⟨z, (p2 z).2 (.inr hz), z1, z2⟩
      · have : y = e := by simpa using hy
        subst this
        exact ⟨y, (p2 y).2 (.inl rfl), rfl, rfl⟩
  · have h0' : fndI s e.f e.t = (j : Int) := by show fndAt e.f e.t 0 s = _; omega
    obtain ⟨k1, k2⟩ := fnd_some e.f e.t s 0 j hj (by omega)
    have hpos : ¬ ((j : Int) < 0) := by omega
    have hs : ofStep s e = if e.c < s[j].c then s.set j ⟨s[j].f, s[j].t, e.c⟩ else s := by
      unfold ofStep
      rw [h0']
      simp only [Int.toNat_natCast, List.getElem?_eq_getElem hj, hpos, if_false]
    rw [hs]
    have hmj := List.getElem_mem hj
    by_cases hc : e.c < s[j].c
    · rw [if_pos hc]
      have hmem : ∀ x, x ∈ s.set j ⟨s[j].f, s[j].t, e.c⟩ → x = ⟨s[j].f, s[j].t, e.c⟩ ∨ (x ∈ s ∧ ¬ (x.f = e.f ∧ x.t = e.t)) := fun x hx => by
        obtain ⟨i, hi, rfl⟩ := List.mem_iff_getElem.1 hx
        rw [List.getElem_set]
        split
        · exact .inl rfl
        · rename_i hne
          rw [List.length_set] at hi
          refine .inr ⟨List.getElem_mem hi, fun hk => ?_⟩
          have hp := List.pairwise_iff_getElem.1 h.asc
          rcases Nat.lt_trichotomy i j with hij | hij | hij
          · have := hp i j hi hj hij; unfold ltK at this; omega
          · exact hne hij.symm
          · have := hp j i hj hi hij; unfold ltK at this; omega
      have hin : (⟨s[j].f, s[j].t, e.c⟩ : Edg) = e := by cases e; simp only at *; simp [k1, k2]
      refine ⟨?_, fun x hx => ?_, fun x hx y hy g1 g2 => ?_, fun y hy => ?_⟩
      · show (s.set j _).Pairwise ltK
        rw [List.pairwise_iff_getElem]
        intro a b ha hb hab
        rw [List.length_set] at ha hb
        have hp := List.pairwise_iff_getElem.1 h.asc a b ha hb hab
        rw [List.getElem_set, List.getElem_set]
        unfold ltK at *
        split <;> split <;> (try subst_vars) <;> (try simp only at *) <;> omega
      · rcases hmem x hx with rfl | ⟨hx, _⟩
        · rw [hin]; simp
        · exact List.mem_append.2 (.inl (h.sub x hx))
      · rcases hmem x hx with rfl | ⟨hx, hne⟩
        · rcases List.mem_append.1 hy with hy | hy
          · have := h.min _ hmj y hy g1 g2; simp only at *; omega
          · have : y = e := by simpa using hy
            rw [this]; exact Int.le_refl _
        · rcases List.mem_append.1 hy with hy | hy
          · exact h.min x hx y hy g1 g2
          · have : y = e := by simpa using hy
            subst this
            exact absurd ⟨g1.symm, g2.symm⟩ hne
      · have hnew : (⟨s[j].f, s[j].t, e.c⟩ : Edg) ∈ s.set j ⟨s[j].f, s[j].t, e.c⟩ := List.mem_iff_getElem.2 ⟨j, by simpa using hj, by simp⟩
        rcases List.mem_append.1 hy with hy | hy
        · obtain ⟨z, hz, z1, z2⟩ := h.all y hy
          by_cases hzk : z.f = e.f ∧ z.t = e.t
          · exact ⟨_, hnew, by simp only; omega, by simp only; omega⟩
          · refine ⟨z, ?_, z1, z2⟩
            obtain ⟨i, hi, rfl⟩ := List.mem_iff_getElem.1 hz
            refine List.mem_iff_getElem.2 ⟨i, by simpa using hi, ?_⟩
            rw [List.getElem_set, if_neg (fun e2 => by subst e2; exact hzk ⟨k1, k2⟩)]
        · have : y = e := by simpa using hy
          exact ⟨_, hnew, by rw [this]; exact k1, by rw [this]; exact k2⟩
    · rw [if_neg hc]
      refine ⟨h.asc, fun x hx => List.mem_append.2 (.inl (h.sub x hx)), fun x hx y hy g1 g2 => ?_, fun y hy => ?_⟩
      · rcases List.mem_append.1 hy with hy | hy
        · exact h.min x hx y hy g1 g2
        · have hye : y = e := by simpa using hy
          subst hye
          have hxj : x = s[j] := by
            obtain ⟨i, hi, rfl⟩ := List.mem_iff_getElem.1 hx
            have hp := List.pairwise_iff_getElem.1 h.asc
            rcases Nat.lt_trichotomy i j with hij | hij | hij
            · have := hp i j hi hj hij; unfold ltK at this; omega
            · subst hij; rfl
            · have := hp j i hj hi hij; unfold ltK at this; omega
          rw [hxj]; omega
      · rcases List.mem_append.1 hy with hy | hy
        · exact h.all y hy
        · have : y = e := by simpa using hy
          exact ⟨s[j], hmj, by rw [this]; exact k1, by rw [this]; exact k2⟩
def ofR (l : List Edg) : List Edg := l.foldl ofStep []
theorem ofR_least (l : List Edg) : Least l (ofR l) := by
  have key : ∀ (l pre s : List Edg), Least pre s → Least (pre ++ l) (l.foldl ofStep s) := by
    intro l
    induction l with
    | nil => intro pre s h; simpa using h
    | cons e l ih => intro pre s h; have := ih (pre ++ [e]) (ofStep s e) (ofStep_least h); simpa using this
  exact key l [] [] ⟨by simp [AscK], by simp, by simp, by simp⟩
theorem ofR_eq (l : List Edg) : ofR l = ofL l := (ofR_least l).uniq (ofL_least l)
theorem ofR_succ (l : List Edg) (i : Nat) (h : i < l.length) : ofR (l.take (i + 1)) = ofStep (ofR (l.take i)) l[i] := by
  unfold ofR; rw [List.take_succ_eq_append_getElem h, List.foldl_append]; rfl
theorem ofR_len (l : List Edg) : (ofR l).length ≤ l.length := by rw [ofR_eq]; exact ofL_len l
end Go.Pl
/- Elements that a test holds for are dropped. -/
namespace Go.Pl
set_option linter.all false
def keepL {α : Type} (p : α → Bool) (l : List α) : List α := l.filter fun x => !p x
def idxAt {α : Type} (p : α → Bool) : Nat → List α → Int
  | _, [] => -1
  | k, x :: l => bif p x then (k : Int) else idxAt p (k + 1) l
theorem idxAt_spec {α : Type} (p : α → Bool) : ∀ (l : List α) (k : Nat), (idxAt p k l = -1 ∧ keepL p l = l) ∨ ∃ j : Nat, ∃ h : j < l.length, idxAt p k l = ((k + j : Nat) : Int) ∧ p l[j] = true ∧ keepL p (l.take j) = l.take j
  | [], k => .inl ⟨rfl, rfl⟩
  | x :: l, k => by
    cases hx : p x with
    | true => exact .inr ⟨0, by simp, by simp [idxAt, hx], by simpa using hx, by simp [keepL]⟩
    | false =>
      have e : idxAt p k (x :: l) = idxAt p (k + 1) l := by simp [idxAt, hx]
      rw [e]
      rcases idxAt_spec p l (k + 1) with ⟨h1, h2⟩ | ⟨j, hj, h1, h2, h3⟩
      · refine .inl ⟨h1, ?_⟩
        unfold keepL at *; simp [hx, h2]
      · refine .inr ⟨j + 1, by simpa using hj, by rw [h1]; omega, by simpa using h2, ?_⟩
        unfold keepL at *; simp [hx, h3]
theorem keep_len {α : Type} (p : α → Bool) (l : List α) : (keepL p l).length ≤ l.length := List.length_filter_le _ _
theorem keep_take {α : Type} (p : α → Bool) (l : List α) (n : Nat) (h : n < l.length) : keepL p (l.take (n + 1)) = keepL p (l.take n) ++ bif p l[n] then [] else [l[n]] := by
  unfold keepL
  rw [List.take_succ_eq_append_getElem h, List.filter_append]
  congr 1
  cases hp : p l[n] <;> simp [hp]
theorem keep_len_lt {α : Type} (p : α → Bool) (l : List α) (j : Nat) (h : j < l.length) (hp : p l[j] = true) (n : Nat) (hn : j < n) (hnl : n ≤ l.length) : (keepL p (l.take n)).length < n := by
  obtain ⟨d, rfl⟩ : ∃ d, n = j + 1 + d := ⟨n - (j + 1), by omega⟩
  clear hn
  induction d with
  | zero =>
    rw [Nat.add_zero, keep_take p l j h, hp, cond_true, List.append_nil]
    have := keep_len p (l.take j)
    simp at this; omega
  | succ d ih =>
    have := ih (by omega)
    rw [← Nat.add_assoc, keep_take p l (j + 1 + d) (by omega), List.length_append]
    cases p l[j + 1 + d] <;> simp <;> omega
end Go.Pl
namespace Go.Pl
set_option linter.all false
/-- binary search: the least place in [i, j) whose element is not below -/
def bsGo {α : Type} (p : α → Bool) (l : List α) (i j : Nat) : Nat :=
  if h : i < j then
    (if h2 : (i + j) / 2 < l.length then
      (bif p l[(i + j) / 2] then bsGo p l ((i + j) / 2 + 1) j else bsGo p l i ((i + j) / 2))
    else i)
  else i
termination_by j - i
theorem bsGo_end {α : Type} (p : α → Bool) (l : List α) (i : Nat) : bsGo p l i i = i := by
  rw [bsGo]; simp
theorem bsGo_step {α : Type} (p : α → Bool) (l : List α) (i j : Nat) (h : i < j) (hj : j ≤ l.length) :
    bsGo p l i j = (bif p (l[(i + j) / 2]'(by omega)) then bsGo p l ((i + j) / 2 + 1) j else bsGo p l i ((i + j) / 2)) := by
  rw [bsGo]; simp [h, show (i + j) / 2 < l.length by omega]
def hitAt {α : Type} (p : α → Bool) (l : List α) (i : Nat) : Bool := match l[i]? with | some e => p e | none => false
theorem bsGo_le {α : Type} (p : α → Bool) (l : List α) : ∀ (n i j : Nat), j - i ≤ n → i ≤ j → j ≤ l.length → i ≤ bsGo p l i j ∧ bsGo p l i j ≤ j
  | n, i, j, hn, hi, hj => by
    rw [bsGo]
    by_cases h : i < j
    · have hm : (i + j) / 2 < l.length := by omega
      simp only [h, hm, dif_pos]
      cases n with
      | zero => omega
      | succ n =>
        cases p l[(i + j) / 2] with
        | true => have := bsGo_le p l n ((i + j) / 2 + 1) j (by omega) (by omega) hj; simp only [cond_true]; omega
        | false => have := bsGo_le p l n i ((i + j) / 2) (by omega) (by omega) (by omega); simp only [cond_false]; omega
    · simp only [h, dif_neg, not_false_eq_true]; omega
/-- over a list on which p is first true and then false -/
theorem bsGo_spec {α : Type} (p : α → Bool) (l : List α) (hm : ∀ a b (ha : a < b) (hb : b < l.length), p l[b] = true → p (l[a]'(by omega)) = true) :
    ∀ (n i j : Nat), j - i ≤ n → (hi : i ≤ j) → (hj : j ≤ l.length) →
      (∀ k (hk : k < i), p (l[k]'(by omega)) = true) → (∀ k (hk : j ≤ k) (hl : k < l.length), p l[k] = false) →
      (∀ k (hk : k < bsGo p l i j) (hl : k < l.length), p l[k] = true) ∧ (∀ k (hk : bsGo p l i j ≤ k) (hl : k < l.length), p l[k] = false)
  | n, i, j, hn, hi, hj, h1, h2 => by
    rw [bsGo]
    by_cases h : i < j
    · have hmm : (i + j) / 2 < l.length := by omega
      simp only [h, hmm, dif_pos]
      cases n with
      | zero => omega
      | succ n =>
        cases hp : p l[(i + j) / 2] with
        | true =>
          simp only [cond_true]
          refine bsGo_spec p l hm n ((i + j) / 2 + 1) j (by omega) (by omega) hj ?_ h2
          intro k hk
          by_cases e : k = (i + j) / 2
          · subst e; exact hp
          · exact hm k ((i + j) / 2) (by omega) hmm hp
        | false =>
          simp only [cond_false]
          refine bsGo_spec p l hm n i ((i + j) / 2) (by omega) (by omega) (by omega) h1 ?_
          intro k hk hl
          by_cases e : k = (i + j) / 2
          · subst e; exact hp
          · cases hq : p l[k] with
            | false => rfl
            | true => have := hm ((i + j) / 2) k (by omega) hl hq; rw [hp] at this; exact absurd this (by simp)
    · simp only [h, dif_neg, not_false_eq_true]
      have : i = j := by omega
      exact ⟨fun k hk _ => h1 k hk, fun k hk hl => h2 k (by omega) hl⟩
end Go.Pl
namespace Go.Pl
theorem hitAt_eq {α : Type} [Inhabited α] (l : List α) (i : Nat) (p : α → Bool) : ∃ q, (i < l.length → l[i]? = some q) ∧ hitAt p l i = (decide ((i : Int) < (l.length : Int)) && p q) := by
  by_cases h : i < l.length
  · exact ⟨l[i], fun _ => List.getElem?_eq_getElem h, by simp [hitAt, h]⟩
  · exact ⟨default, fun h' => absurd h' h, by simp [hitAt, h]⟩
end Go.Pl
namespace Go.Pl
open Go.RT
def zE : Edg := ⟨0, 0, 0⟩
/-- what Delete leaves in the room -/
def delL (l : List Edg) (i j : Nat) : List Edg := l.take i ++ l.drop j
theorem delL_len (l : List Edg) (i j : Nat) (h1 : i ≤ j) (h2 : j ≤ l.length) : (delL l i j).length = l.length - (j - i) := by simp [delL]; omega
theorem del_rows (l : List Edg) (k i j : Nat) (h1 : i ≤ j) (h2 : j ≤ l.length) :
    ((l ++ List.replicate k zE).take i ++ l.drop j ++ (l ++ List.replicate k zE).drop (i + (l.length - j))).take (i + (l.length - j)) ++ List.replicate (l.length - (i + (l.length - j))) zE
      ++ ((l ++ List.replicate k zE).take i ++ l.drop j ++ (l ++ List.replicate k zE).drop (i + (l.length - j))).drop (i + (l.length - j) + (l.length - (i + (l.length - j))))
      = delL l i j ++ List.replicate (k + (j - i)) zE := by
  have e1 : (l ++ List.replicate k zE).take i = l.take i := by rw [List.take_append_of_le_length (by omega)]
  have e2 : (l.take i ++ l.drop j).length = i + (l.length - j) := by simp; omega
  rw [e1]
  rw [show i + (l.length - j) + (l.length - (i + (l.length - j))) = l.length by omega]
  have e3 : ((l ++ List.replicate k zE).drop (i + (l.length - j))).drop (l.length - (i + (l.length - j))) = List.replicate k zE := by
    rw [List.drop_drop, show i + (l.length - j) + (l.length - (i + (l.length - j))) = l.length by omega, List.drop_left]
  have e4 : List.replicate (l.length - (i + (l.length - j))) zE ++ List.replicate k zE = List.replicate (k + (j - i)) zE := by
    rw [List.replicate_append_replicate]; congr 1; omega
  show _ = (l.take i ++ l.drop j) ++ _
  generalize hA : l.take i ++ l.drop j = A at *
  generalize hB : (l ++ List.replicate k zE).drop (i + (l.length - j)) = B at *
  rw [List.take_left' e2, List.append_assoc, ← e4, ← e3]
  congr 2
  rw [List.drop_append, e2, List.drop_of_length_le (by omega), List.nil_append]
end Go.Pl
namespace Go.Pl
set_option linter.all false
/-- x put in ahead of place i -/
def insL {α : Type} (l : List α) (i : Nat) (x : α) : List α := l.take i ++ x :: l.drop i
theorem insL_len {α : Type} (l : List α) (i : Nat) (x : α) (h : i ≤ l.length) : (insL l i x).length = l.length + 1 := by simp [insL]; omega
theorem insL_map {α β : Type} (f : α → β) (l : List α) (i : Nat) (x : α) : (insL l i x).map f = insL (l.map f) i (f x) := by simp [insL]
/-- the rows behind the copies of slices.Insert, where it grows -/
theorem ins_grow {β : Type} (l : List β) (i : Nat) (x z : β) (h : i < l.length) :
    (((l.take i ++ List.replicate (l.length + 1 - i) z).take i ++ [x] ++ (l.take i ++ List.replicate (l.length + 1 - i) z).drop (i + 1)).take (i + 1) ++ l.drop i ++
      ((l.take i ++ List.replicate (l.length + 1 - i) z).take i ++ [x] ++ (l.take i ++ List.replicate (l.length + 1 - i) z).drop (i + 1)).drop (i + 1 + (l.length - i))) = insL l i x := by
  have h1 : (l.take i).length = i := by simp; omega
  have e1 : (l.take i ++ List.replicate (l.length + 1 - i) z).take i = l.take i := by rw [List.take_append_of_le_length (by omega), List.take_take]; simp
  rw [e1]
  generalize hd : (l.take i ++ List.replicate (l.length + 1 - i) z).drop (i + 1) = d
  have hdl : d.length = l.length - i := by rw [← hd]; simp; omega
  have h2 : (l.take i ++ [x]).length = i + 1 := by simp; omega
  have e2 : (l.take i ++ [x] ++ d).take (i + 1) = l.take i ++ [x] := by rw [List.take_append_of_le_length (by omega), List.take_of_length_le (by omega)]
  have e3 : (l.take i ++ [x] ++ d).drop (i + 1 + (l.length - i)) = [] := List.drop_of_length_le (by rw [List.length_append, h2, hdl]; omega)
  rw [e2, e3]
  simp [insL]
/-- .. where there is room -/
theorem ins_room {β : Type} (l : List β) (i : Nat) (x : β) (h : i < l.length) :
    ((l.take (i + 1) ++ l.drop i ++ l.drop (i + 1 + (l.length - i))).take i ++ [x] ++ (l.take (i + 1) ++ l.drop i ++ l.drop (i + 1 + (l.length - i))).drop (i + 1)) = insL l i x := by
  have e0 : l.drop (i + 1 + (l.length - i)) = [] := List.drop_of_length_le (by omega)
  have h1 : (l.take (i + 1)).length = i + 1 := by simp; omega
  rw [e0, List.append_nil]
  have e1 : (l.take (i + 1) ++ l.drop i).take i = l.take i := by rw [List.take_append_of_le_length (by omega), List.take_take, Nat.min_eq_left (by omega)]
  have e2 : (l.take (i + 1) ++ l.drop i).drop (i + 1) = l.drop i := by rw [List.drop_append_of_le_length (by omega), List.drop_of_length_le (by omega)]; rfl
  rw [e1, e2]
  simp [insL]
abbrev bsAt (l : List Edg) (x : Edg) : Nat := bsGo (fun e => decide (ordE e x < 0)) l 0 l.length
abbrev bsHit (l : List Edg) (x : Edg) : Bool := hitAt (fun e => decide (ordE e x = 0)) l (bsAt l x)
/-- one change, as the program makes it -/
def chgF (g : Gr) (c : Edg) : Gr × Int :=
  if nodeB g c.f = false ∨ nodeB g c.t = false then (g, 5)
  else if c.c < 0 then (if bsHit g.es c = false then (g, 6) else (⟨g.r, g.n, delL g.es (bsAt g.es c) (bsAt g.es c + 1)⟩, 0))
  else if alwI g c ≠ 0 then (g, alwI g c)
  else if bsHit g.es c = true then (⟨g.r, g.n, g.es.set (bsAt g.es c) c⟩, 0)
  else if g.es.length = 1024 then (g, 4)
  else (⟨g.r, g.n, insL g.es (bsAt g.es c) c⟩, 0)
theorem hitAt_lt {α : Type} {p : α → Bool} {l : List α} {i : Nat} (h : hitAt p l i = true) : ∃ h : i < l.length, p l[i] = true := by
  unfold hitAt at h
  cases hi : l[i]? with
  | none => rw [hi] at h; cases h
  | some e =>
    rw [hi] at h
    obtain ⟨h1, h2⟩ := List.getElem?_eq_some_iff.1 hi
    exact ⟨h1, by rw [h2]; exact h⟩
end Go.Pl
/- The kit's contract of slices.SortFunc at elements of one cell, with a closure over frozen data. -/
namespace Go.RT
open Go Go.Proofs Go.Sort Go.Shelf
set_option linter.all false
variable {P : Program} {ρ : Ren}
theorem cmp_lays1 {g : Nat} {β : Type} [Inhabited β] {ev : β → Value} {cf : β → β → Int} {caps : List FV} (hc : ∀ x y, Pure P g ([.lit (ev x), .lit (ev y)] ++ caps) (If .i64 (cf x y))) {blk off size : Nat} {w : World} {S : Nat → Prop} {cb : Array Value} (hblk : ¬ S blk) (hS : ∀ b, S b → b < w.heap.size)
    (hcl : cb.size = caps.length) (hcr : ∀ (i : Nat) (v : Value) (f : FV), cb[i]? = some v → caps[i]? = some f → FRep w S v f) {c : Array Value} {e : TypeId} (hb : w.heap[blk]? = some (.cells c e (0, 0))) : CmpLays1 P g cb ev cf blk off size w := by
  intro m os dk _ x y
  have hsame : ∀ b, S b → (sortWorld ev w blk off m dk os).heap[b]? = w.heap[b]? := fun b hs => by
    have hbl := hS b hs
    have hne : b ≠ blk := fun e => hblk (e ▸ hs)
    unfold sortWorld putRow
    rw [mapBlock_setRow (w := Go.Sort.ahead w m) (b := blk) (c := c) (e := e) (fr := (0, 0)) _ hb]
    have : (grow ((Go.Sort.ahead w m).setRow blk (putCells ev off dk c)) os) = grown (w.setRow blk (putCells ev off dk c)) os m := rfl
    rw [this, grown_old _ _ _ (by simpa using hbl), setRow_other w blk b _ hne]
  have hsz : w.heap.size ≤ (sortWorld ev w blk off m dk os).heap.size := by
    unfold sortWorld putRow
    rw [mapBlock_setRow (w := Go.Sort.ahead w m) (b := blk) (c := c) (e := e) (fr := (0, 0)) _ hb]
    have : (grow ((Go.Sort.ahead w m).setRow blk (putCells ev off dk c)) os) = grown (w.setRow blk (putCells ev off dk c)) os m := rfl
    rw [this]; simp [grown]
  generalize sortWorld ev w blk off m dk os = W at hsame hsz
  let C : Cx := ⟨W, fun _ => False, S, fun _ => none, 0⟩
  have hm : Mem C [] 0 C.S0 C.m0 C.w0 := ⟨⟨rfl, Nat.le_refl _⟩, rfl, rfl, fun _ _ => rfl, Nat.le_refl _, fun _ _ _ => rfl, Le.refl _ _ _, fun b h => .inl h, fun i x hx => (by cases hx), fun i o h => (by cases h), fun i o b h => (by cases h), fun i j o1 o2 b h => (by cases h), fun b hb => Nat.lt_of_lt_of_le (hS b hb) hsz, fun _ _ => rfl, nst_nil⟩
  have := (hc x y).run C ([ev x, ev y] ++ cb.toList) rfl hm (by simp [hcl]) (fun i v p hi hp => by
    rw [List.getElem?_map] at hp
    obtain ⟨f, hf, rfl⟩ := Option.map_eq_some_iff.1 hp
    match i with
    | 0 => simp at hi hf; subst hi; subst hf; exact .fz _ _ (.lit _)
    | 1 => simp at hi hf; subst hi; subst hf; exact .fz _ _ (.lit _)
    | i + 2 =>
      simp at hi hf
      exact .fz _ _ ((hcr i v f hi hf).mono (fun _ h => h) hsame))
  have h2 : Calls P g (#[ev x, ev y] ++ cb) W (fun e w' => ∃ v S' m', e = .returned v ∧ Mem C [] 0 S' m' w' ∧ Rep w' S' m' v (.fz (If .i64 (cf x y)))) := by
    have e1 : ([ev x, ev y] ++ cb.toList).toArray = #[ev x, ev y] ++ cb := by simp
    rw [e1] at this; exact this
  refine h2.mono fun e w' ⟨v, S', m', he, hm', hr⟩ => ?_
  obtain ⟨q, os', hw⟩ := hm'.is_grown (fun b h => h)
  refine ⟨by rw [he]; cases hr with | fz _ _ h => cases h; rfl, q, os', hw⟩
theorem sort1_meets (L : SlLaysF.n6 P ρ) {β : Type} [Inhabited β] {ev : β → Value} (h1 : OneCell ev) {cf : β → β → Int} (hO : SWO (ltOf cf)) {g : Nat} [FnB P g] {caps : List FV}
    (hc : ∀ x y, Pure P g ([.lit (ev x), .lit (ev y)] ++ caps) (If .i64 (cf x y))) {l : List β} (hl : l.length < 4611686018427387904) :
    Meets P (ρ.f 6) [.sl 0 1 0 l.length, .fz (.clo g caps)] 1 [(0, some (.flat 1 (l.map fun x => [.lit (ev x)])))] (.fz (.tup [])) [(0, some (.flat 1 ((sortBy cf l).map fun x => [.lit (ev x)])))] 1 := by
  refine ⟨fun C vs hn hm hlv hr => ?_⟩
  have hg : ∀ args w, (callFunc g args).run P w = .ok (.enter g args) w := fun args w => by
    obtain ⟨fn, q1, q2, q3⟩ := (inferInstance : FnB P g).h
    have h4 : ¬ (fn.body = none) := by intro e; rw [e] at q3; cases q3
    have h5 : ¬ (fn.name = "runtime.NumGoroutine") := by simpa using q2
    simp [callFunc, q1, h4, h5]
  have tupR : ∀ w' S' m', Rep w' S' m' (.tuple #[]) (.fz (.tup [])) := fun w' S' m' => .fz _ _ (.tup #[] [] rfl (fun i c f hc => by simp at hc))
  match vs, hlv, hr with
  | [v0, v1], _, hr =>
  have r0 := hr 0 v0 _ rfl rfl
  have r1 := (hr 1 v1 _ rfl rfl).frz
  have ho := hm.objs 0 _ rfl
  obtain ⟨hs1, hs2, _⟩ := sortBy_spec cf hO l
  cases r1 with
  | clo _ cb _ hcl hcr =>
  generalize hll : l.length = n at r0 hl
  cases r0 with
  | sl0 =>
    have : l = [] := List.length_eq_zero_iff.1 hll
    subst this
    have e : sortBy cf ([] : List β) = [] := List.length_eq_zero_iff.1 hs2
    rw [e]
    refine (AnyF.slices_SortFunc_none (P := P) (ρ := ρ) { L with } none 0 (.func (.func g) #[] cb) C.w0).mono fun e w' ⟨he, hw⟩ => ?_
    subst hw
    exact ⟨_, _, _, he, hm, tupR _ _ _⟩
  | sl _ _ _ _ b cap h hroom hcap hmx =>
    rcases ho with ⟨h2, _⟩ | ⟨b', c, e, h2, h3, h4⟩
    · rw [h] at h2; cases h2
    · rw [h] at h2; cases h2
      obtain ⟨hsz, _, hR⟩ := h4
      obtain ⟨hb1, hb2, hb3⟩ := hm.blk 0 _ b rfl h
      have hcells : ∀ j (hj : j < l.length), c[j]? = some (ev l[j]) := fun j hj => by
        obtain ⟨u, hu, _, hf⟩ := hR j 0 [.lit (ev l[j])] (.lit (ev l[j])) (by simp [hj]) rfl
        cases hf
        simpa using hu
      have hH : Holds ev C.w0 b (0 * 1) l.toArray := by
        intro j hj
        simp at hj
        refine ⟨?_, ?_⟩
        · simp only [World.cell?, h3, Nat.zero_mul, Nat.zero_add]
          rw [getElem!_pos _ j (by simpa using hj)]
          simpa using hcells j hj
        · simp [World.frozen?, h3]
      have hcall := Any.slices_SortFunc_eq L ev h1 cf hO g cb b (0 * 1) cap l.toArray C.w0 hg (cmp_lays1 hc hb1 hm.stab hcl hcr h3) hH hb2 (by simpa [hll] using hl)
      rw [show l.toArray.size = n by simpa using hll] at hcall
      refine hcall.mono fun ex w' ⟨he, q, os, hw⟩ => ?_
      subst hw
      have hd : pdq (ltOf cf) l.toArray 0 n (Lib.bitLen n) true true = (sortBy cf l).toArray := by rw [← hll]; simp [sortBy]
      rw [hd]
      have hset : sortWorld ev C.w0 b (0 * 1) q (sortBy cf l).toArray os = grown (C.w0.setRow b (putCells ev 0 (sortBy cf l).toArray c)) os q := by
        unfold sortWorld putRow
        rw [mapBlock_setRow (w := Go.Sort.ahead C.w0 q) (b := b) (c := c) (e := e) (fr := (0, 0)) _ h3, Nat.zero_mul]
        rfl
      rw [hset]
      have hps : (putCells ev 0 (sortBy cf l).toArray c).size = c.size := by simp [putCells]
      have hrr : ∀ w' : World, RowsRep (FRep w' C.S0) (putCells ev 0 (sortBy cf l).toArray c) 1 ((sortBy cf l).map fun x => [FV.lit (ev x)]) := fun w' => by
        refine ⟨by rw [hps]; simpa [hs2] using hsz, fun r hr => ?_, fun i j r p hi hj => ?_⟩
        · obtain ⟨x, _, rfl⟩ := List.mem_map.1 hr
          rfl
        · rw [List.getElem?_map] at hi
          obtain ⟨x, hx, rfl⟩ := Option.map_eq_some_iff.1 hi
          have hin : i < (sortBy cf l).length := (List.getElem?_eq_some_iff.1 hx).1
          match j, hj with
          | 0, hj =>
            cases hj
            have hlt2 : i < c.size := by simp at hsz; omega
            refine ⟨ev x, ?_, h1 x, .lit _⟩
            unfold putCells
            rw [Nat.mul_one, Nat.add_zero, Array.getElem?_mapIdx, Array.getElem?_eq_getElem hlt2]
            simp only [Option.map_some, Nat.zero_le, true_and, Nat.zero_add, List.size_toArray, Nat.sub_zero]
            rw [if_pos hin, getElem!_pos _ i (by simpa using hin)]
            rw [List.getElem?_eq_getElem hin] at hx
            cases hx; simp
          | j + 1, hj => simp at hj
      obtain ⟨m1, hle1⟩ := hm.write (id := 0) (o' := .flat 1 ((sortBy cf l).map fun x => [.lit (ev x)])) rfl h h3 hps (plain_hown (by exact trivial)) (fun w' hle hb => .inr ⟨b, _, e, h, hb, hrr w'⟩)
      refine ⟨_, _, _, he, ((m1.reheap (H' := [(0, some (.flat 1 ((sortBy cf l).map fun x => [.lit (ev x)])))]) (fun id => ?_)).grow os q).1, tupR _ _ _⟩
      simp only [hlook]
      cases Nat.beq 0 id <;> rfl
end Go.RT
namespace Go.Proofs.Ytgbfkpcigipniaa
open Go Go.RT Go.Proofs Go.Pl
set_option linter.all false
set_option maxRecDepth 20000
set_option maxHeartbeats 2000000
instance : FnOv Try.prog 72 25   := ⟨_, 4, Try.func72, by decide +kernel, rfl, by kernel_rfl, by kernel_rfl⟩
theorem inserti_c (l : List Int) (x : Int) (i : Nat) (hn : l.length ≤ 2000000) (hi : i ≤ l.length) : Meets Try.prog 57 [.sl 0 1 0 l.length, IV .i64 i, .sl 1 1 0 1] 2 [(0, OI l), (1, OI [x])] (.sl 2 1 0 (l.length + 1)) [(2, OI (insL l i x))] 3 := by
  have hil := insL_len l i x hi
  have e0 : ∀ xs ys : List Int, List.map encN (xs ++ ys) = xs.map encN ++ ys.map encN := fun xs ys => List.map_append
  refine Meets.intro Try.func57 rfl (Nat.le_of_ble_eq_true rfl) fun C hC => ?_
  simp only [List.map, argEnv, Nat.reduceAdd]
  by_cases hie : i = l.length
  · refine nK ?_
    refine s_reg rfl ?_
    first | refine Run.pure (dd := some 6) rfl rfl (op_assign rfl (Opd.const _)) ?_ | refine Run.pure (dd := some 6) rfl rfl (op_junk (.inr rfl)) ?_
    refine Run.nil (FinR.mk ?_)
    refine nK ?_
    refine s_reg rfl ?_
    first | refine Run.pure (dd := some 10) rfl rfl (op_move rfl (Opd.tmp _ _ rfl)) ?_ | refine Run.pure (dd := some 10) rfl rfl (op_junk (.inl rfl)) ?_
    first | refine Run.pure (dd := some 11) rfl rfl (op_move rfl (Opd.tmp _ _ rfl)) ?_ | refine Run.pure (dd := some 11) rfl rfl (op_junk (.inl rfl)) ?_
    refine Run.load (dd := some 12) rfl rfl (op_slice_end (l := i) (h := l.length) rfl (Opd.tmp _ _ rfl) (Bnd.yes _ _ _ _ _ (Opd.tmp _ _ rfl) tQ) (Bnd.no _) (by intro _; refine ⟨rfl, ?_⟩; rw [List.length_map]; omega)) ?_
    refine Run.nil (FinR.mk ?_)
    refine nK ?_
    refine s_reg rfl ?_
    first | refine Run.pure (dd := some 13) rfl rfl (op_move rfl (Opd.tmp _ _ rfl)) ?_ | refine Run.pure (dd := some 13) rfl rfl (op_junk (.inl rfl)) ?_
    first | refine Run.pure (dd := some 14) rfl rfl (op_len_fz rfl (by first | exact Opd.tmp _ _ rfl | exact Opd.nil _ _ (Opd.tmp _ _ rfl)) (by first | exact List.length_map _ | rfl)) ?_ | refine Run.pure (dd := some 14) rfl rfl (op_len_sl rfl (Opd.tmp _ _ rfl)) ?_
    first | refine Run.pure (dd := some 7) rfl rfl (op_assign rfl (Opd.tmp _ _ rfl)) ?_ | refine Run.pure (dd := some 7) rfl rfl (op_junk (.inr rfl)) ?_
    refine Run.nil (FinR.mk ?_)
    refine nK ?_
    refine s_reg rfl ?_
    first | refine Run.pure (dd := some 15) rfl rfl (op_move rfl (Opd.tmp _ _ rfl)) ?_ | refine Run.pure (dd := some 15) rfl rfl (op_junk (.inl rfl)) ?_
    refine Run.pure (dd := some 16) rfl rfl (op_eql rfl (Opd.tmp _ _ rfl) (Opd.const _)) ?_
    refine Run.nil (FinR.mk ?_)
    refine nK ?_
    refine n_cond _ rfl (fun hb => ?_) (fun hb => ?_)
    · simp at hb
    · refine nK ?_
      refine s_reg rfl ?_
      first | refine Run.pure (dd := some 18) rfl rfl (op_move rfl (Opd.tmp _ _ rfl)) ?_ | refine Run.pure (dd := some 18) rfl rfl (op_junk (.inl rfl)) ?_
      first | refine Run.pure (dd := some 19) rfl rfl (op_len_fz rfl (by first | exact Opd.tmp _ _ rfl | exact Opd.nil _ _ (Opd.tmp _ _ rfl)) (by first | exact List.length_map _ | rfl)) ?_ | refine Run.pure (dd := some 19) rfl rfl (op_len_sl rfl (Opd.tmp _ _ rfl)) ?_
      first | refine Run.pure (dd := some 8) rfl rfl (op_assign rfl (Opd.tmp _ _ rfl)) ?_ | refine Run.pure (dd := some 8) rfl rfl (op_junk (.inr rfl)) ?_
      refine Run.nil (FinR.mk ?_)
      refine nK ?_
      refine s_reg rfl ?_
      first | refine Run.pure (dd := some 20) rfl rfl (op_move rfl (Opd.tmp _ _ rfl)) ?_ | refine Run.pure (dd := some 20) rfl rfl (op_junk (.inl rfl)) ?_
      first | refine Run.pure (dd := some 21) rfl rfl (op_move rfl (Opd.tmp _ _ rfl)) ?_ | refine Run.pure (dd := some 21) rfl rfl (op_junk (.inl rfl)) ?_
      refine Run.pure (dd := some 22) rfl rfl (op_eql rfl (Opd.tmp _ _ rfl) (Opd.tmp _ _ rfl)) ?_
      refine Run.nil (FinR.mk ?_)
      refine nK ?_
      refine n_cond _ rfl (fun hb => ?_) (fun hb => ?_)
      · have e4 : insL l i x = l ++ [x] := by rw [hie]; simp [insL]
        refine nK ?_
        refine s_reg rfl ?_
        first | refine Run.pure (dd := some 23) rfl rfl (op_move rfl (Opd.tmp _ _ rfl)) ?_ | refine Run.pure (dd := some 23) rfl rfl (op_junk (.inl rfl)) ?_
        first | refine Run.pure (dd := some 24) rfl rfl (op_move rfl (Opd.tmp _ _ rfl)) ?_ | refine Run.pure (dd := some 24) rfl rfl (op_junk (.inl rfl)) ?_
        first | refine Run.eff (dd := some 25) rfl rfl (op_append_own0 rfl (Opd.tmp _ _ rfl) (Opd.tmp _ _ rfl) rfl (by first | rfl | simp) rfl (by first | rfl | simp) rfl rfl tB tB) ?_ | refine Run.eff (dd := some 25) rfl rfl (op_append rfl (Opd.tmp _ _ rfl) (by first | exact Opd.tmp _ _ rfl | exact Opd.nil _ _ (Opd.tmp _ _ rfl)) rfl (by first | rfl | simp) rfl rfl tB tB) ?_
        first | refine Run.pure (dd := some 6) rfl rfl (op_assign rfl (Opd.tmp _ _ rfl)) ?_ | refine Run.pure (dd := some 6) rfl rfl (op_junk (.inr rfl)) ?_
        refine Run.nil (FinR.mk ?_)
        refine nK ?_
        refine Next.weakS [0, 2, 6] [] (by rfl) (keepsN hC _ rfl) (G' := [(6, .sl 2 1 0 (l.length + 1))]) (H' := [(2, OI (insL l i x))]) (by exact ⟨⟨_, rfl, .inl ⟨rfl, rfl⟩⟩, trivial⟩) (by exact ⟨ent_same rfl rfl (by rw [e4, e0]; rfl) trivial, trivial⟩) rfl ?_
        exact n_out1 rfl (by rfl) rfl rfl
      · exfalso; simp at hb; omega
  · refine nK ?_
    refine s_reg rfl ?_
    first | refine Run.pure (dd := some 6) rfl rfl (op_assign rfl (Opd.const _)) ?_ | refine Run.pure (dd := some 6) rfl rfl (op_junk (.inr rfl)) ?_
    refine Run.nil (FinR.mk ?_)
    refine nK ?_
    refine s_reg rfl ?_
    first | refine Run.pure (dd := some 10) rfl rfl (op_move rfl (Opd.tmp _ _ rfl)) ?_ | refine Run.pure (dd := some 10) rfl rfl (op_junk (.inl rfl)) ?_
    first | refine Run.pure (dd := some 11) rfl rfl (op_move rfl (Opd.tmp _ _ rfl)) ?_ | refine Run.pure (dd := some 11) rfl rfl (op_junk (.inl rfl)) ?_
    refine Run.load (dd := some 12) rfl rfl (op_slice_view (l := i) (h := l.length) rfl (Opd.tmp _ _ rfl) (Bnd.yes _ _ _ _ _ (Opd.tmp _ _ rfl) tQ) (Bnd.no _) (by intro _; refine ⟨rfl, ?_⟩; rw [List.length_map]; omega)) ?_
    refine Run.nil (FinR.mk ?_)
    refine nK ?_
    refine s_reg rfl ?_
    first | refine Run.pure (dd := some 13) rfl rfl (op_move rfl (Opd.tmp _ _ rfl)) ?_ | refine Run.pure (dd := some 13) rfl rfl (op_junk (.inl rfl)) ?_
    first | refine Run.pure (dd := some 14) rfl rfl (op_len_fz rfl (by first | exact Opd.tmp _ _ rfl | exact Opd.nil _ _ (Opd.tmp _ _ rfl)) (by first | exact List.length_map _ | rfl)) ?_ | refine Run.pure (dd := some 14) rfl rfl (op_len_sl rfl (Opd.tmp _ _ rfl)) ?_
    first | refine Run.pure (dd := some 7) rfl rfl (op_assign rfl (Opd.tmp _ _ rfl)) ?_ | refine Run.pure (dd := some 7) rfl rfl (op_junk (.inr rfl)) ?_
    refine Run.nil (FinR.mk ?_)
    refine nK ?_
    refine s_reg rfl ?_
    first | refine Run.pure (dd := some 15) rfl rfl (op_move rfl (Opd.tmp _ _ rfl)) ?_ | refine Run.pure (dd := some 15) rfl rfl (op_junk (.inl rfl)) ?_
    refine Run.pure (dd := some 16) rfl rfl (op_eql rfl (Opd.tmp _ _ rfl) (Opd.const _)) ?_
    refine Run.nil (FinR.mk ?_)
    refine nK ?_
    refine n_cond _ rfl (fun hb => ?_) (fun hb => ?_)
    · simp at hb
    · refine nK ?_
      refine s_reg rfl ?_
      first | refine Run.pure (dd := some 18) rfl rfl (op_move rfl (Opd.tmp _ _ rfl)) ?_ | refine Run.pure (dd := some 18) rfl rfl (op_junk (.inl rfl)) ?_
      first | refine Run.pure (dd := some 19) rfl rfl (op_len_fz rfl (by first | exact Opd.tmp _ _ rfl | exact Opd.nil _ _ (Opd.tmp _ _ rfl)) (by first | exact List.length_map _ | rfl)) ?_ | refine Run.pure (dd := some 19) rfl rfl (op_len_sl rfl (Opd.tmp _ _ rfl)) ?_
      first | refine Run.pure (dd := some 8) rfl rfl (op_assign rfl (Opd.tmp _ _ rfl)) ?_ | refine Run.pure (dd := some 8) rfl rfl (op_junk (.inr rfl)) ?_
      refine Run.nil (FinR.mk ?_)
      refine nK ?_
      refine s_reg rfl ?_
      first | refine Run.pure (dd := some 20) rfl rfl (op_move rfl (Opd.tmp _ _ rfl)) ?_ | refine Run.pure (dd := some 20) rfl rfl (op_junk (.inl rfl)) ?_
      first | refine Run.pure (dd := some 21) rfl rfl (op_move rfl (Opd.tmp _ _ rfl)) ?_ | refine Run.pure (dd := some 21) rfl rfl (op_junk (.inl rfl)) ?_
      refine Run.pure (dd := some 22) rfl rfl (op_eql rfl (Opd.tmp _ _ rfl) (Opd.tmp _ _ rfl)) ?_
      refine Run.nil (FinR.mk ?_)
      refine nK ?_
      refine n_cond _ rfl (fun hb => ?_) (fun hb => ?_)
      · exfalso; simp at hb; omega
      · refine Next.capE 0 rfl rfl rfl (Nat.zero_le _) fun cap hc1 hc2 hc3 => ?_
        unfold maxLen at hc3
        refine nK ?_
        refine s_reg rfl ?_
        first | refine Run.pure (dd := some 26) rfl rfl (op_move rfl (Opd.tmp _ _ rfl)) ?_ | refine Run.pure (dd := some 26) rfl rfl (op_junk (.inl rfl)) ?_
        first | refine Run.pure (dd := some 27) rfl rfl (op_move rfl (Opd.tmp _ _ rfl)) ?_ | refine Run.pure (dd := some 27) rfl rfl (op_junk (.inl rfl)) ?_
        refine Run.pure (dd := some 28) rfl rfl (op_add rfl (Opd.tmp _ _ rfl) (Opd.tmp _ _ rfl) tI) ?_
        first | refine Run.pure (dd := some 29) rfl rfl (op_move rfl (Opd.tmp _ _ rfl)) ?_ | refine Run.pure (dd := some 29) rfl rfl (op_junk (.inl rfl)) ?_
        refine Run.pure (dd := some 30) rfl rfl (op_cap rfl (Opd.tmp _ _ rfl)) ?_
        refine Run.pure (dd := some 31) rfl rfl (op_gtr rfl (Opd.tmp _ _ rfl) (Opd.tmp _ _ rfl)) ?_
        refine Run.nil (FinR.mk ?_)
        refine nK ?_
        refine n_cond _ rfl (fun hb => ?_) (fun hb => ?_)
        · have hc4 : cap < l.length + 1 := by simp at hb; omega
          have hlen2 : ((l.map encN).take i ++ List.replicate (l.length + 1 - i) (encN 0)).length = l.length + 1 := by simp; omega
          refine nK ?_
          refine s_reg rfl ?_
          first | refine Run.pure (dd := some 32) rfl rfl (op_move rfl (Opd.tmp _ _ rfl)) ?_ | refine Run.pure (dd := some 32) rfl rfl (op_junk (.inl rfl)) ?_
          first | refine Run.pure (dd := some 33) rfl rfl (op_move rfl (Opd.tmp _ _ rfl)) ?_ | refine Run.pure (dd := some 33) rfl rfl (op_junk (.inl rfl)) ?_
          refine Run.pure (dd := some 34) rfl rfl (op_slice_room (h := i) rfl (Opd.tmp _ _ rfl) (Bnd.yes _ _ _ _ _ (Opd.tmp _ _ rfl) tQ) (by intro _; omega)) ?_
          first | refine Run.pure (dd := some 35) rfl rfl (op_move rfl (Opd.tmp _ _ rfl)) ?_ | refine Run.pure (dd := some 35) rfl rfl (op_junk (.inl rfl)) ?_
          first | refine Run.pure (dd := some 36) rfl rfl (op_move rfl (Opd.tmp _ _ rfl)) ?_ | refine Run.pure (dd := some 36) rfl rfl (op_junk (.inl rfl)) ?_
          refine Run.pure (dd := some 37) rfl rfl (op_add rfl (Opd.tmp _ _ rfl) (Opd.tmp _ _ rfl) tI) ?_
          first | refine Run.pure (dd := some 38) rfl rfl (op_move rfl (Opd.tmp _ _ rfl)) ?_ | refine Run.pure (dd := some 38) rfl rfl (op_junk (.inl rfl)) ?_
          refine Run.pure (dd := some 39) rfl rfl (op_sub rfl (Opd.tmp _ _ rfl) (Opd.tmp _ _ rfl) tI) ?_
          refine Run.eff (dd := some 40) rfl rfl (op_append_zg (k := l.length + 1 - i) (zs := encN 0) rfl (Opd.tmp _ _ rfl) (opdI (Opd.tmp _ _ rfl) (by omega)) rfl rfl rfl rfl rfl (by rw [List.length_map]; omega) (by omega) (by omega) (by omega) (by omega)) ?_
          first | refine Run.pure (dd := some 9) rfl rfl (op_assign rfl (Opd.tmp _ _ rfl)) ?_ | refine Run.pure (dd := some 9) rfl rfl (op_junk (.inr rfl)) ?_
          refine Run.nil (FinR.mk ?_)
          refine nK ?_
          have hz : ∀ k : Nat, (some (Ob.flat 1 ((l.map encN).take i ++ List.replicate k [If .i64 0]))) = some (.flat 1 ((l.map encN).take i ++ List.replicate k (encN 0))) := fun _ => rfl
          refine nK ?_
          refine s_reg rfl ?_
          first | refine Run.pure (dd := some 41) rfl rfl (op_move rfl (Opd.tmp _ _ rfl)) ?_ | refine Run.pure (dd := some 41) rfl rfl (op_junk (.inl rfl)) ?_
          first | refine Run.pure (dd := some 42) rfl rfl (op_move rfl (Opd.tmp _ _ rfl)) ?_ | refine Run.pure (dd := some 42) rfl rfl (op_junk (.inl rfl)) ?_
          refine Run.load (dd := some 43) rfl rfl (op_slice_view (l := i) (h := i + (l.length + 1 - i)) rfl (Opd.tmp _ _ rfl) (Bnd.yes _ _ _ _ _ (Opd.tmp _ _ rfl) tQ) (Bnd.no _) (by intro _; refine ⟨rfl, ?_⟩; rw [hlen2]; omega)) ?_
          first | refine Run.pure (dd := some 44) rfl rfl (op_move rfl (Opd.tmp _ _ rfl)) ?_ | refine Run.pure (dd := some 44) rfl rfl (op_junk (.inl rfl)) ?_
          refine Run.eff (dd := some 45) rfl rfl (op_copy (n := 1) (rs := [x].map encN) rfl (Opd.tmp _ _ rfl) (Opd.tmp _ _ rfl) rfl rfl (by show min _ _ = _; omega) rfl rfl (by rw [hlen2]; omega)) ?_
          refine Run.nil (FinR.mk ?_)
          refine nK ?_
          have hlen3 : (((l.map encN).take i ++ List.replicate (l.length + 1 - i) (encN 0)).take (0 + i) ++ [x].map encN ++ ((l.map encN).take i ++ List.replicate (l.length + 1 - i) (encN 0)).drop (0 + i + 1)).length = l.length + 1 := by simp; omega
          refine nK ?_
          refine s_draw mixed ?_
          first | refine Run.pure (dd := some 46) rfl rfl (op_move rfl (Opd.tmp _ _ rfl)) ?_ | refine Run.pure (dd := some 46) rfl rfl (op_junk (.inl rfl)) ?_
          first | refine Run.pure (dd := some 47) rfl rfl (op_move rfl (Opd.tmp _ _ rfl)) ?_ | refine Run.pure (dd := some 47) rfl rfl (op_junk (.inl rfl)) ?_
          first | refine Run.pure (dd := some 48) rfl rfl (op_move rfl (Opd.tmp _ _ rfl)) ?_ | refine Run.pure (dd := some 48) rfl rfl (op_junk (.inl rfl)) ?_
          refine Run.pure (dd := some 49) rfl rfl (op_add rfl (Opd.tmp _ _ rfl) (Opd.tmp _ _ rfl) tI) ?_
          refine Run.load (dd := some 50) rfl rfl (op_slice_view (l := i + 1) (h := i + (l.length + 1 - i)) rfl (Opd.tmp _ _ rfl) (Bnd.yes _ _ _ _ _ (Opd.tmp _ _ rfl) tQ) (Bnd.no _) (by intro _; refine ⟨rfl, ?_⟩; rw [hlen3]; omega)) ?_
          first | refine Run.pure (dd := some 51) rfl rfl (op_move rfl (Opd.tmp _ _ rfl)) ?_ | refine Run.pure (dd := some 51) rfl rfl (op_junk (.inl rfl)) ?_
          first | refine Run.pure (dd := some 52) rfl rfl (op_move rfl (Opd.tmp _ _ rfl)) ?_ | refine Run.pure (dd := some 52) rfl rfl (op_junk (.inl rfl)) ?_
          refine Run.load (dd := some 53) rfl rfl (op_slice_view (l := i) (h := l.length) rfl (Opd.wc _ _ _ (Opd.tmp _ _ rfl)) (Bnd.yes _ _ _ _ _ (Opd.tmp _ _ rfl) tQ) (Bnd.no _) (by intro _; refine ⟨rfl, ?_⟩; rw [List.length_map]; omega)) ?_
          refine Run.effW (dd := some 54) rfl rfl (op_copy (n := l.length - i) (rs := (l.map encN).drop i) rfl (Opd.tmp _ _ rfl) (Opd.tmp _ _ rfl) rfl rfl (by show min _ _ = _; omega) (by rw [Nat.zero_add, List.take_of_length_le (by simp)]) (by simp) (by rw [hlen3]; omega)) tE ?_
          refine Run.nil (FinD.mk (by kernel_rfl) ?_)
          refine nK ?_
          have hgr := ins_grow (l.map encN) i (encN x) (encN 0) (by rw [List.length_map]; omega)
          rw [List.length_map, ← insL_map] at hgr
          refine nK ?_
          refine s_reg rfl ?_
          first | refine Run.pure (dd := some 55) rfl rfl (op_move rfl (Opd.tmp _ _ rfl)) ?_ | refine Run.pure (dd := some 55) rfl rfl (op_junk (.inl rfl)) ?_
          first | refine Run.pure (dd := some 6) rfl rfl (op_assign rfl (Opd.tmp _ _ rfl)) ?_ | refine Run.pure (dd := some 6) rfl rfl (op_junk (.inr rfl)) ?_
          refine Run.nil (FinR.mk ?_)
          refine nK ?_
          refine Next.weakS [0, 2, 6] [] (by rfl) (keepsN hC _ rfl) (G' := [(6, .sl 2 1 0 (l.length + 1))]) (H' := [(2, OI (insL l i x))]) (by exact ⟨⟨_, rfl, .inl ⟨slEq rfl (by omega), rfl⟩⟩, trivial⟩) (by exact ⟨ent_same rfl rfl (by rw [← hgr]; simp only [Nat.zero_add]; rfl) trivial, trivial⟩) rfl ?_
          exact n_out1 rfl (by rfl) rfl rfl
        · have hc4 : l.length + 1 ≤ cap := by simp at hb; omega
          refine nK ?_
          refine s_reg rfl ?_
          first | refine Run.pure (dd := some 56) rfl rfl (op_move rfl (Opd.tmp _ _ rfl)) ?_ | refine Run.pure (dd := some 56) rfl rfl (op_junk (.inl rfl)) ?_
          first | refine Run.pure (dd := some 57) rfl rfl (op_move rfl (Opd.tmp _ _ rfl)) ?_ | refine Run.pure (dd := some 57) rfl rfl (op_junk (.inl rfl)) ?_
          first | refine Run.pure (dd := some 58) rfl rfl (op_move rfl (Opd.tmp _ _ rfl)) ?_ | refine Run.pure (dd := some 58) rfl rfl (op_junk (.inl rfl)) ?_
          refine Run.pure (dd := some 59) rfl rfl (op_add rfl (Opd.tmp _ _ rfl) (Opd.tmp _ _ rfl) tI) ?_
          refine Run.pure (dd := some 60) rfl rfl (op_slice_room (h := l.length + 1) rfl (Opd.tmp _ _ rfl) (Bnd.yes _ _ _ _ _ (Opd.tmp _ _ rfl) (by intro _; simp)) (by intro _; omega)) ?_
          first | refine Run.pure (dd := some 0) rfl rfl (op_assign rfl (Opd.tmp _ _ rfl)) ?_ | refine Run.pure (dd := some 0) rfl rfl (op_junk (.inr rfl)) ?_
          refine Run.nil (FinR.mk ?_)
          refine nK ?_
          refine nK ?_
          refine s_reg rfl ?_
          first | refine Run.pure (dd := some 61) rfl rfl (op_move rfl (Opd.tmp _ _ rfl)) ?_ | refine Run.pure (dd := some 61) rfl rfl (op_junk (.inl rfl)) ?_
          first | refine Run.pure (dd := some 62) rfl rfl (op_move rfl (Opd.tmp _ _ rfl)) ?_ | refine Run.pure (dd := some 62) rfl rfl (op_junk (.inl rfl)) ?_
          first | refine Run.pure (dd := some 63) rfl rfl (op_move rfl (Opd.tmp _ _ rfl)) ?_ | refine Run.pure (dd := some 63) rfl rfl (op_junk (.inl rfl)) ?_
          first | refine Run.pure (dd := some 64) rfl rfl (op_move rfl (Opd.tmp _ _ rfl)) ?_ | refine Run.pure (dd := some 64) rfl rfl (op_junk (.inl rfl)) ?_
          refine Run.pure (dd := some 65) rfl rfl (op_add rfl (Opd.tmp _ _ rfl) (Opd.tmp _ _ rfl) tI) ?_
          refine Run.pure (dd := some 66) rfl rfl (op_slice_fromR (l := i + 1) rfl (Opd.tmp _ _ rfl) (Bnd.yes _ _ _ _ _ (Opd.tmp _ _ rfl) tQ) (by intro _; omega)) ?_
          refine Run.load (dd := some 67) rfl rfl (op_overlaps rfl (Opd.tmp _ _ rfl) (Opd.tmp _ _ rfl) rfl rfl rfl (by rw [List.length_map]; omega) rfl) ?_
          refine Run.pure (dd := some 68) rfl rfl (op_not rfl (Opd.tmp _ _ rfl)) ?_
          refine Run.nil (FinR.mk ?_)
          refine nK ?_
          refine n_cond _ rfl (fun hb => ?_) (fun hb => ?_)
          · refine nK ?_
            refine s_draw mixed ?_
            first | refine Run.pure (dd := some 69) rfl rfl (op_move rfl (Opd.tmp _ _ rfl)) ?_ | refine Run.pure (dd := some 69) rfl rfl (op_junk (.inl rfl)) ?_
            first | refine Run.pure (dd := some 70) rfl rfl (op_move rfl (Opd.tmp _ _ rfl)) ?_ | refine Run.pure (dd := some 70) rfl rfl (op_junk (.inl rfl)) ?_
            first | refine Run.pure (dd := some 71) rfl rfl (op_move rfl (Opd.tmp _ _ rfl)) ?_ | refine Run.pure (dd := some 71) rfl rfl (op_junk (.inl rfl)) ?_
            refine Run.pure (dd := some 72) rfl rfl (op_add rfl (Opd.tmp _ _ rfl) (Opd.tmp _ _ rfl) tI) ?_
            refine Run.pure (dd := some 73) rfl rfl (op_slice_fromR (l := i + 1) rfl (Opd.tmp _ _ rfl) (Bnd.yes _ _ _ _ _ (Opd.tmp _ _ rfl) tQ) (by intro _; omega)) ?_
            first | refine Run.pure (dd := some 74) rfl rfl (op_move rfl (Opd.tmp _ _ rfl)) ?_ | refine Run.pure (dd := some 74) rfl rfl (op_junk (.inl rfl)) ?_
            first | refine Run.pure (dd := some 75) rfl rfl (op_move rfl (Opd.tmp _ _ rfl)) ?_ | refine Run.pure (dd := some 75) rfl rfl (op_junk (.inl rfl)) ?_
            refine Run.pure (dd := some 76) rfl rfl (op_slice_fromR (l := i) rfl (Opd.tmp _ _ rfl) (Bnd.yes _ _ _ _ _ (Opd.tmp _ _ rfl) tQ) (by intro _; omega)) ?_
            refine Run.effW (dd := some 77) rfl rfl (op_copy (n := l.length - i) (rs := (l.map encN).drop i) rfl (Opd.tmp _ _ rfl) (Opd.tmp _ _ rfl) rfl rfl (by show min _ _ = _; omega) (by rw [Nat.zero_add, List.take_of_length_le (by simp)]) (by simp) (by rw [List.length_map]; omega)) tE ?_
            refine Run.nil (FinD.mk (by kernel_rfl) ?_)
            refine nK ?_
            have hl5 : ((l.map encN).take (0 + (i + 1)) ++ (l.map encN).drop i ++ (l.map encN).drop (0 + (i + 1) + (l.length - i))).length = l.length + 1 := by simp; omega
            have hgr := ins_room (l.map encN) i (encN x) (by rw [List.length_map]; omega)
            rw [List.length_map, ← insL_map] at hgr
            refine nK ?_
            refine s_reg rfl ?_
            first | refine Run.pure (dd := some 78) rfl rfl (op_move rfl (Opd.tmp _ _ rfl)) ?_ | refine Run.pure (dd := some 78) rfl rfl (op_junk (.inl rfl)) ?_
            first | refine Run.pure (dd := some 79) rfl rfl (op_move rfl (Opd.tmp _ _ rfl)) ?_ | refine Run.pure (dd := some 79) rfl rfl (op_junk (.inl rfl)) ?_
            refine Run.load (dd := some 80) rfl rfl (op_slice_view (l := i) (h := l.length + 1) rfl (Opd.wc _ _ _ (Opd.tmp _ _ rfl)) (Bnd.yes _ _ _ _ _ (Opd.tmp _ _ rfl) tQ) (Bnd.no _) (by intro _; refine ⟨rfl, ?_⟩; rw [hl5]; omega)) ?_
            first | refine Run.pure (dd := some 81) rfl rfl (op_move rfl (Opd.tmp _ _ rfl)) ?_ | refine Run.pure (dd := some 81) rfl rfl (op_junk (.inl rfl)) ?_
            refine Run.eff (dd := some 82) rfl rfl (op_copy (n := 1) (rs := [x].map encN) rfl (Opd.tmp _ _ rfl) (Opd.tmp _ _ rfl) rfl rfl (by show min _ _ = _; omega) rfl rfl (by rw [hl5]; omega)) ?_
            refine Run.nil (FinR.mk ?_)
            refine nK ?_
            refine s_reg rfl ?_
            first | refine Run.pure (dd := some 83) rfl rfl (op_move rfl (Opd.tmp _ _ rfl)) ?_ | refine Run.pure (dd := some 83) rfl rfl (op_junk (.inl rfl)) ?_
            first | refine Run.pure (dd := some 6) rfl rfl (op_assign rfl (Opd.tmp _ _ rfl)) ?_ | refine Run.pure (dd := some 6) rfl rfl (op_junk (.inr rfl)) ?_
            refine Run.nil (FinR.mk ?_)
            refine nK ?_
            refine Next.unwc 6 rfl ?_
            refine Next.retag 6 rfl rfl ?_
            refine Next.weakS [0, 2, 6] [] (by rfl) (keepsN hC _ rfl) (G' := [(6, .sl 2 1 0 (l.length + 1))]) (H' := [(2, OI (insL l i x))]) (by exact ⟨⟨_, rfl, .inl ⟨rfl, rfl⟩⟩, trivial⟩) (by exact ⟨ent_same rfl rfl (by rw [← hgr]; simp only [Nat.zero_add]; rfl) trivial, trivial⟩) rfl ?_
            exact n_out1 rfl (by rfl) rfl rfl
          · exfalso; simp at hb
end Go.Proofs.Ytgbfkpcigipniaa
namespace Go.Proofs.Ytgbfkpcigipniaa
open Go Go.RT Go.Proofs Go.Pl
set_option linter.all false
set_option maxRecDepth 20000
set_option maxHeartbeats 2000000
theorem snan_c (a : Int) : Pure Try.prog 71 [If .i64 a] (Bf false) := by
  refine Meets.intro Try.func71 rfl (Nat.le_of_ble_eq_true rfl) fun C hC => ?_
  simp only [List.map, argEnv, Nat.reduceAdd]
  refine nK ?_
  refine s_reg rfl ?_
  first | refine Run.pure (dd := some 2) rfl rfl (op_assign rfl (Opd.const _)) ?_ | refine Run.pure (dd := some 2) rfl rfl (op_junk (.inr rfl)) ?_
  refine Run.nil (FinR.mk ?_)
  refine nK ?_
  refine s_reg rfl ?_
  first | refine Run.pure (dd := some 3) rfl rfl (op_move rfl (Opd.tmp _ _ rfl)) ?_ | refine Run.pure (dd := some 3) rfl rfl (op_junk (.inl rfl)) ?_
  first | refine Run.pure (dd := some 4) rfl rfl (op_move rfl (Opd.tmp _ _ rfl)) ?_ | refine Run.pure (dd := some 4) rfl rfl (op_junk (.inl rfl)) ?_
  refine Run.pure (dd := some 5) rfl rfl (op_neq rfl (Opd.tmp _ _ rfl) (Opd.tmp _ _ rfl)) ?_
  first | refine Run.pure (dd := some 2) rfl rfl (op_assign rfl (Opd.tmp _ _ rfl)) ?_ | refine Run.pure (dd := some 2) rfl rfl (op_junk (.inr rfl)) ?_
  refine Run.nil (FinR.mk ?_)
  refine nK ?_
  refine Next.weakS [] [] (by rfl) (keeps0 hC _) (G' := [(2, BV false)]) (H' := []) ⟨⟨_, rfl, .inl ⟨by simp [renP], rfl⟩⟩, trivial⟩ trivial rfl ?_
  (first | exact s_o1 hC rfl tV | exact s_o2 hC rfl tV tV | exact s_o3 hC rfl tV tV tV | exact s_out0 hC rfl | exact s_outO hC rfl rfl rfl)
theorem cless_c (a b : Int) : Pure Try.prog 70 [If .i64 a, If .i64 b] (Bf (decide (a < b))) := by
  refine Meets.intro Try.func70 rfl (Nat.le_of_ble_eq_true rfl) fun C hC => ?_
  simp only [List.map, argEnv, Nat.reduceAdd]
  refine nK ?_
  refine s_reg rfl ?_
  first | refine Run.pure (dd := some 4) rfl rfl (op_assign rfl (Opd.const _)) ?_ | refine Run.pure (dd := some 4) rfl rfl (op_junk (.inr rfl)) ?_
  refine Run.nil (FinR.mk ?_)
  refine nK ?_
  refine s_reg rfl ?_
  first | refine Run.pure (dd := some 5) rfl rfl (op_move rfl (Opd.tmp _ _ rfl)) ?_ | refine Run.pure (dd := some 5) rfl rfl (op_junk (.inl rfl)) ?_
  refine Run.pure (dd := some 6) rfl rfl (op_call_pure (fun _ => nan_c _) rfl (Opd.func _) (Opds.cons _ _ _ _ (Opd.tmp _ _ rfl) Opds.nil)) ?_
  first | refine Run.pure (dd := some 7) rfl rfl (op_move rfl (Opd.tmp _ _ rfl)) ?_ | refine Run.pure (dd := some 7) rfl rfl (op_junk (.inl rfl)) ?_
  first | refine Run.pureG (dd := some 8) rfl rfl rfl tG (op_move rfl (Opd.tmp _ _ rfl)) ?_ | refine Run.pureG (dd := some 8) rfl rfl rfl tG (op_junk (.inl rfl)) ?_
  refine Run.pureG (dd := some 9) rfl rfl rfl tG (op_call_pure (fun _ => nan_c _) rfl (Opd.func _) (Opds.cons _ _ _ _ (Opd.topt _ _ _ rfl tO) Opds.nil)) ?_
  refine Run.pureG (dd := some 10) rfl rfl rfl tG (op_not rfl (Opd.topt _ _ _ rfl tO)) ?_
  refine Run.pure (dd := some 11) rfl rfl (op_pick_and rfl (Opd.tmp _ _ rfl) (Opd.topt _ _ _ rfl tO)) ?_
  first | refine Run.pure (dd := some 12) rfl rfl (op_move rfl (Opd.tmp _ _ rfl)) ?_ | refine Run.pure (dd := some 12) rfl rfl (op_junk (.inl rfl)) ?_
  first | refine Run.pureG (dd := some 13) rfl rfl rfl tG (op_move rfl (Opd.tmp _ _ rfl)) ?_ | refine Run.pureG (dd := some 13) rfl rfl rfl tG (op_junk (.inl rfl)) ?_
  first | refine Run.pureG (dd := some 14) rfl rfl rfl tG (op_move rfl (Opd.tmp _ _ rfl)) ?_ | refine Run.pureG (dd := some 14) rfl rfl rfl tG (op_junk (.inl rfl)) ?_
  refine Run.pureG (dd := some 15) rfl rfl rfl tG (op_lss rfl (Opd.topt _ _ _ rfl tO) (Opd.topt _ _ _ rfl tO)) ?_
  refine Run.pure (dd := some 16) rfl rfl (op_pick_or rfl (Opd.tmp _ _ rfl) (Opd.topt _ _ _ rfl tO)) ?_
  first | refine Run.pure (dd := some 4) rfl rfl (op_assign rfl (Opd.tmp _ _ rfl)) ?_ | refine Run.pure (dd := some 4) rfl rfl (op_junk (.inr rfl)) ?_
  refine Run.nil (FinR.mk ?_)
  refine nK ?_
  (first | exact s_o1 hC rfl tV | exact s_o2 hC rfl tV tV | exact s_o3 hC rfl tV tV tV | exact s_out0 hC rfl | exact s_outO hC rfl rfl rfl)
theorem bsearchi_c (l : List Int) (x : Int) (hn : l.length ≤ 2000000) : Pure Try.prog 56 [VI l, If .i64 x] (.tup [If .i64 (bsGo (fun e => decide (e < x)) l 0 l.length : Nat), Bf (hitAt (fun e => decide (e = x)) l (bsGo (fun e => decide (e < x)) l 0 l.length))]) := by
  refine Meets.intro Try.func56 rfl (Nat.le_of_ble_eq_true rfl) fun C hC => ?_
  simp only [List.map, argEnv, Nat.reduceAdd]
  refine nK ?_
  refine s_reg rfl ?_
  first | refine Run.pure (dd := some 4) rfl rfl (op_assign rfl (Opd.const _)) ?_ | refine Run.pure (dd := some 4) rfl rfl (op_junk (.inr rfl)) ?_
  first | refine Run.pure (dd := some 5) rfl rfl (op_assign rfl (Opd.const _)) ?_ | refine Run.pure (dd := some 5) rfl rfl (op_junk (.inr rfl)) ?_
  refine Run.nil (FinR.mk ?_)
  refine nK ?_
  refine s_reg rfl ?_
  first | refine Run.pure (dd := some 10) rfl rfl (op_move rfl (Opd.tmp _ _ rfl)) ?_ | refine Run.pure (dd := some 10) rfl rfl (op_junk (.inl rfl)) ?_
  first | refine Run.pure (dd := some 11) rfl rfl (op_len_fz rfl (by first | exact Opd.tmp _ _ rfl | exact Opd.nil _ _ (Opd.tmp _ _ rfl)) (by first | exact List.length_map _ | rfl)) ?_ | refine Run.pure (dd := some 11) rfl rfl (op_len_sl rfl (Opd.tmp _ _ rfl)) ?_
  first | refine Run.pure (dd := some 6) rfl rfl (op_assign rfl (Opd.tmp _ _ rfl)) ?_ | refine Run.pure (dd := some 6) rfl rfl (op_junk (.inr rfl)) ?_
  refine Run.nil (FinR.mk ?_)
  refine nK ?_
  refine s_reg rfl ?_
  first | refine Run.pure (dd := some 12) rfl rfl (op_move rfl (Opd.tmp _ _ rfl)) ?_ | refine Run.pure (dd := some 12) rfl rfl (op_junk (.inl rfl)) ?_
  first | refine Run.pure (dd := some 7) rfl rfl (op_assign rfl (Opd.const _)) ?_ | refine Run.pure (dd := some 7) rfl rfl (op_junk (.inr rfl)) ?_
  first | refine Run.pure (dd := some 8) rfl rfl (op_assign rfl (Opd.tmp _ _ rfl)) ?_ | refine Run.pure (dd := some 8) rfl rfl (op_junk (.inr rfl)) ?_
  refine Run.nil (FinR.mk ?_)
  refine nK ?_
  refine n_loop (ι := Nat × Nat) (fun g => ([(0, .fz (VI l)), (1, IV .i64 x), (6, IV .i64 l.length), (7, IV .i64 g.1), (8, IV .i64 g.2)], [], 0)) (fun g => g.1 ≤ g.2 ∧ g.2 ≤ l.length ∧ bsGo (fun e => decide (e < x)) l g.1 g.2 = bsGo (fun e => decide (e < x)) l 0 l.length) (fun g => g.2 - g.1) (0, l.length) ⟨Nat.zero_le _, Nat.le_refl _, rfl⟩ ?_ ?_
  · refine Next.weak [] [] (by rfl) (keeps0 hC _) (by repeat (first | exact trivial | refine ⟨⟨_, rfl, .inl ⟨rfl, rfl⟩⟩, ?_⟩)) (by repeat (first | exact trivial | refine ⟨ent_same rfl rfl rfl tL, ?_⟩ | refine ⟨ent_same rfl rfl (rfEq rfl tU) tL, ?_⟩ | refine ⟨ent_same rfl rfl (flEq rfl (by first | (simp; done) | (simp; omega) | (simp [encE, encN, encB, encT, encL]; done) | simp [maxC, minC])) trivial, ?_⟩)) (fun _ h => by simp at h) rel_intro
  · intro ⟨i, j⟩ ⟨hi, hj, ho⟩ K hK
    dsimp only at hi hj ho ⊢
    refine nK ?_
    refine s_reg rfl ?_
    first | refine Run.pure (dd := some 13) rfl rfl (op_move rfl (Opd.tmp _ _ rfl)) ?_ | refine Run.pure (dd := some 13) rfl rfl (op_junk (.inl rfl)) ?_
    first | refine Run.pure (dd := some 14) rfl rfl (op_move rfl (Opd.tmp _ _ rfl)) ?_ | refine Run.pure (dd := some 14) rfl rfl (op_junk (.inl rfl)) ?_
    refine Run.pure (dd := some 15) rfl rfl (op_lss rfl (Opd.tmp _ _ rfl) (Opd.tmp _ _ rfl)) ?_
    refine Run.nil (FinR.mk ?_)
    refine nK ?_
    refine n_cond _ rfl (fun hb => ?_) (fun hb => ?_)
    · have hlt : i < j := by simp at hb; omega
      have hm : (i + j) / 2 < l.length := by omega
      have hr1 := row_at' encN l ((i + j) / 2) hm
      have hst := bsGo_step (fun e => decide (e < x)) l i j hlt hj
      rw [ho] at hst
      have hKl := fun h => hK (((i + j) / 2) + 1, j) ⟨by dsimp only; omega, by dsimp only; omega, h⟩ (by dsimp only; omega)
      have hKr := fun h => hK (i, (i + j) / 2) ⟨by dsimp only; omega, by dsimp only; omega, h⟩ (by dsimp only; omega)
      generalize l[(i + j) / 2] = e at *
      refine nK ?_
      refine s_reg rfl ?_
      first | refine Run.pure (dd := some 16) rfl rfl (op_move rfl (Opd.tmp _ _ rfl)) ?_ | refine Run.pure (dd := some 16) rfl rfl (op_junk (.inl rfl)) ?_
      first | refine Run.pure (dd := some 17) rfl rfl (op_move rfl (Opd.tmp _ _ rfl)) ?_ | refine Run.pure (dd := some 17) rfl rfl (op_junk (.inl rfl)) ?_
      refine Run.pure (dd := some 18) rfl rfl (op_add rfl (Opd.tmp _ _ rfl) (Opd.tmp _ _ rfl) tI) ?_
      refine Run.pure (dd := some 19) rfl rfl (op_conv rfl (Opd.tmp _ _ rfl) tI) ?_
      refine Run.pure (dd := some 20) rfl rfl (op_shr (n := 1) rfl (Opd.tmp _ _ rfl) (Opd.const _) (by intro _; simp only [IntKind.bits]; omega)) ?_
      refine Run.pure (dd := some 21) rfl rfl (op_conv rfl (Opd.tmp _ _ rfl) tI) ?_
      first | refine Run.pure (dd := some 9) rfl rfl (op_assign rfl (Opd.tmp _ _ rfl)) ?_ | refine Run.pure (dd := some 9) rfl rfl (op_junk (.inr rfl)) ?_
      refine Run.nil (FinR.mk ?_)
      refine nK ?_
      refine s_reg rfl ?_
      first | refine Run.pure (dd := some 22) rfl rfl (op_move rfl (Opd.tmp _ _ rfl)) ?_ | refine Run.pure (dd := some 22) rfl rfl (op_junk (.inl rfl)) ?_
      first | refine Run.pure (dd := some 23) rfl rfl (op_move rfl (Opd.tmp _ _ rfl)) ?_ | refine Run.pure (dd := some 23) rfl rfl (op_junk (.inl rfl)) ?_
      refine Run.pure (dd := some 24) rfl rfl (op_idx_fz ((i + j) / 2) rfl (Opd.tmp _ _ rfl) (Opd.tmp _ _ rfl) (by intro _; exact ⟨by omega, hr1⟩)) ?_
      first | refine Run.load (dd := some 25) rfl rfl (op_load1_flat rfl (Opd.tmp _ _ rfl) tH rfl) ?_ | refine Run.pure (dd := some 25) rfl rfl (op_load1_fz rfl (Opd.tmp _ _ rfl) rfl) ?_ | refine Run.load (dd := some 25) rfl rfl (op_load1_refs rfl (Opd.tmp _ _ rfl) tH rfl) ?_
      first | refine Run.pure (dd := some 26) rfl rfl (op_move rfl (Opd.tmp _ _ rfl)) ?_ | refine Run.pure (dd := some 26) rfl rfl (op_junk (.inl rfl)) ?_
      refine Run.pure (dd := some 27) rfl rfl (op_call_pure (fun _ => cless_c _ _) rfl (Opd.func _) (Opds.cons _ _ _ _ (Opd.tmp _ _ rfl) (Opds.cons _ _ _ _ (Opd.tmp _ _ rfl) Opds.nil))) ?_
      refine Run.nil (FinR.mk ?_)
      refine nK ?_
      refine n_cond _ rfl (fun hb => ?_) (fun hb => ?_)
      · simp only [hb, cond_true] at hst
        refine nK ?_
        refine s_reg rfl ?_
        first | refine Run.pure (dd := some 28) rfl rfl (op_move rfl (Opd.tmp _ _ rfl)) ?_ | refine Run.pure (dd := some 28) rfl rfl (op_junk (.inl rfl)) ?_
        refine Run.pure (dd := some 29) rfl rfl (op_add rfl (Opd.tmp _ _ rfl) (Opd.const _) tI) ?_
        first | refine Run.pure (dd := some 7) rfl rfl (op_assign rfl (Opd.tmp _ _ rfl)) ?_ | refine Run.pure (dd := some 7) rfl rfl (op_junk (.inr rfl)) ?_
        refine Run.nil (FinR.mk ?_)
        refine nK ?_
        refine Next.weak [] [] (by rfl) (keeps0 hC _) (by repeat (first | exact trivial | refine ⟨⟨_, rfl, .inl ⟨rfl, rfl⟩⟩, ?_⟩)) (by repeat (first | exact trivial | refine ⟨ent_same rfl rfl rfl tL, ?_⟩ | refine ⟨ent_same rfl rfl (rfEq rfl tU) tL, ?_⟩ | refine ⟨ent_same rfl rfl (flEq rfl (by first | (simp; done) | (simp; omega) | (simp [encE, encN, encB, encT, encL]; done) | simp [maxC, minC])) trivial, ?_⟩)) (fun _ h => by simp at h) (hKl hst.symm)
      · simp only [hb, cond_false] at hst
        refine nK ?_
        refine s_reg rfl ?_
        first | refine Run.pure (dd := some 30) rfl rfl (op_move rfl (Opd.tmp _ _ rfl)) ?_ | refine Run.pure (dd := some 30) rfl rfl (op_junk (.inl rfl)) ?_
        first | refine Run.pure (dd := some 8) rfl rfl (op_assign rfl (Opd.tmp _ _ rfl)) ?_ | refine Run.pure (dd := some 8) rfl rfl (op_junk (.inr rfl)) ?_
        refine Run.nil (FinR.mk ?_)
        refine nK ?_
        refine Next.weak [] [] (by rfl) (keeps0 hC _) (by repeat (first | exact trivial | refine ⟨⟨_, rfl, .inl ⟨rfl, rfl⟩⟩, ?_⟩)) (by repeat (first | exact trivial | refine ⟨ent_same rfl rfl rfl tL, ?_⟩ | refine ⟨ent_same rfl rfl (rfEq rfl tU) tL, ?_⟩ | refine ⟨ent_same rfl rfl (flEq rfl (by first | (simp; done) | (simp; omega) | (simp [encE, encN, encB, encT, encL]; done) | simp [maxC, minC])) trivial, ?_⟩)) (fun _ h => by simp at h) (hKr hst.symm)
    · have hie : i = j := by simp at hb; omega
      rw [hie, bsGo_end] at ho
      rw [← ho]
      rw [hie] at hi ⊢
      obtain ⟨q, hq, hh⟩ := hitAt_eq l j (fun e => decide (e = x))
      rw [hh]
      have hr : j < l.length → (l.map encN)[j]? = some (encN q) := fun h => by rw [List.getElem?_map, hq h]; rfl
      refine nK ?_
      refine s_reg rfl ?_
      first | refine Run.pure (dd := some 31) rfl rfl (op_move rfl (Opd.tmp _ _ rfl)) ?_ | refine Run.pure (dd := some 31) rfl rfl (op_junk (.inl rfl)) ?_
      first | refine Run.pure (dd := some 32) rfl rfl (op_move rfl (Opd.tmp _ _ rfl)) ?_ | refine Run.pure (dd := some 32) rfl rfl (op_junk (.inl rfl)) ?_
      first | refine Run.pure (dd := some 33) rfl rfl (op_move rfl (Opd.tmp _ _ rfl)) ?_ | refine Run.pure (dd := some 33) rfl rfl (op_junk (.inl rfl)) ?_
      refine Run.pure (dd := some 34) rfl rfl (op_lss rfl (Opd.tmp _ _ rfl) (Opd.tmp _ _ rfl)) ?_
      first | refine Run.pure (dd := some 35) rfl rfl (op_move rfl (Opd.tmp _ _ rfl)) ?_ | refine Run.pure (dd := some 35) rfl rfl (op_junk (.inl rfl)) ?_
      first | refine Run.pureG (dd := some 36) rfl rfl rfl tG (op_move rfl (Opd.tmp _ _ rfl)) ?_ | refine Run.pureG (dd := some 36) rfl rfl rfl tG (op_junk (.inl rfl)) ?_
      first | refine Run.pureG (dd := some 37) rfl rfl rfl tG (op_move rfl (Opd.tmp _ _ rfl)) ?_ | refine Run.pureG (dd := some 37) rfl rfl rfl tG (op_junk (.inl rfl)) ?_
      refine Run.pureG (dd := some 38) rfl rfl rfl tG (op_idx_fz j rfl (Opd.topt _ _ _ rfl tO) (Opd.topt _ _ _ rfl tO) (by intro hg; exact ⟨rfl, hr (by simp at hg; omega)⟩)) ?_
      first | refine Run.loadG (dd := some 39) rfl rfl rfl tG (op_load1_flat rfl (Opd.topt _ _ _ rfl tO) tH rfl) ?_ | refine Run.pureG (dd := some 39) rfl rfl rfl tG (op_load1_fz rfl (Opd.topt _ _ _ rfl tO) rfl) ?_ | refine Run.loadG (dd := some 39) rfl rfl rfl tG (op_load1_refs rfl (Opd.topt _ _ _ rfl tO) tH rfl) ?_
      first | refine Run.pureG (dd := some 40) rfl rfl rfl tG (op_move rfl (Opd.tmp _ _ rfl)) ?_ | refine Run.pureG (dd := some 40) rfl rfl rfl tG (op_junk (.inl rfl)) ?_
      refine Run.pureG (dd := some 41) rfl rfl rfl tG (op_eql rfl (Opd.topt _ _ _ rfl tO) (Opd.topt _ _ _ rfl tO)) ?_
      first | refine Run.pureG (dd := some 42) rfl rfl rfl tG (op_move rfl (Opd.topt _ _ _ rfl tO)) ?_ | refine Run.pureG (dd := some 42) rfl rfl rfl tG (op_junk (.inl rfl)) ?_
      first | refine Run.pureG (dd := some 43) rfl rfl rfl tG (op_move rfl (Opd.tmp _ _ rfl)) ?_ | refine Run.pureG (dd := some 43) rfl rfl rfl tG (op_junk (.inl rfl)) ?_
      first | refine Run.pureG (dd := some 44) rfl rfl rfl tG (op_move rfl (Opd.tmp _ _ rfl)) ?_ | refine Run.pureG (dd := some 44) rfl rfl rfl tG (op_junk (.inl rfl)) ?_
      refine Run.pureG (dd := some 45) rfl rfl rfl tG (op_idx_fz j rfl (Opd.topt _ _ _ rfl tO) (Opd.topt _ _ _ rfl tO) (by intro hg; exact ⟨rfl, hr (by simp at hg; omega)⟩)) ?_
      first | refine Run.loadG (dd := some 46) rfl rfl rfl tG (op_load1_flat rfl (Opd.topt _ _ _ rfl tO) tH rfl) ?_ | refine Run.pureG (dd := some 46) rfl rfl rfl tG (op_load1_fz rfl (Opd.topt _ _ _ rfl tO) rfl) ?_ | refine Run.loadG (dd := some 46) rfl rfl rfl tG (op_load1_refs rfl (Opd.topt _ _ _ rfl tO) tH rfl) ?_
      refine Run.pureG (dd := some 47) rfl rfl rfl tG (op_call_pure (fun _ => snan_c _) rfl (Opd.func _) (Opds.cons _ _ _ _ (Opd.topt _ _ _ rfl tO) Opds.nil)) ?_
      first | refine Run.pureG (dd := some 48) rfl rfl rfl tG (op_move rfl (Opd.topt _ _ _ rfl tO)) ?_ | refine Run.pureG (dd := some 48) rfl rfl rfl tG (op_junk (.inl rfl)) ?_
      first | refine Run.pureG (dd := some 49) rfl rfl rfl tG (op_move rfl (Opd.tmp _ _ rfl)) ?_ | refine Run.pureG (dd := some 49) rfl rfl rfl tG (op_junk (.inl rfl)) ?_
      refine Run.pureG (dd := some 50) rfl rfl rfl tG (op_call_pure (fun _ => snan_c _) rfl (Opd.func _) (Opds.cons _ _ _ _ (Opd.topt _ _ _ rfl tO) Opds.nil)) ?_
      refine Run.pureG (dd := some 51) rfl rfl rfl tG (op_pick_and rfl (Opd.topt _ _ _ rfl tO) (Opd.topt _ _ _ rfl tO)) ?_
      refine Run.pureG (dd := some 52) rfl rfl rfl tG (op_pick_or rfl (Opd.topt _ _ _ rfl tO) (Opd.topt _ _ _ rfl tO)) ?_
      refine Run.pure (dd := some 53) rfl rfl (op_pick_and rfl (Opd.tmp _ _ rfl) (Opd.topt _ _ _ rfl tO)) ?_
      first | refine Run.pure (dd := some 4) rfl rfl (op_assign rfl (Opd.tmp _ _ rfl)) ?_ | refine Run.pure (dd := some 4) rfl rfl (op_junk (.inr rfl)) ?_
      first | refine Run.pure (dd := some 5) rfl rfl (op_assign rfl (Opd.tmp _ _ rfl)) ?_ | refine Run.pure (dd := some 5) rfl rfl (op_junk (.inr rfl)) ?_
      refine Run.nil (FinR.mk ?_)
      refine nK ?_
      refine Next.weakS [] [] (by rfl) (keeps0 hC _) (G' := [(4, IV .i64 j), (5, BV (decide ((j : Int) < (l.length : Int)) && decide (q = x)))]) (H' := []) ⟨⟨_, rfl, .inl ⟨rfl, rfl⟩⟩, ⟨_, rfl, .inl ⟨by simp [renP], rfl⟩⟩, trivial⟩ trivial rfl ?_
      (first | exact s_o1 hC rfl tV | exact s_o2 hC rfl tV tV | exact s_o3 hC rfl tV tV tV | exact s_out0 hC rfl | exact s_outO hC rfl rfl rfl)
end Go.Proofs.Ytgbfkpcigipniaa
namespace Go.Pl
open Go Go.RT
set_option linter.all false
/- the order of the nodes in hops -/
theorem perm_sorted_eq {α : Type} {le : α → α → Prop} (anti : ∀ a b, le a b → le b a → a = b) : ∀ (l1 l2 : List α), l1.Perm l2 → l1.Pairwise le → l2.Pairwise le → l1 = l2
  | [], l2, h, _, _ => (List.nil_perm.1 h).symm
  | x :: a, [], h, _, _ => by have := h.length_eq; simp at this
  | x :: a, y :: b, h, h1, h2 => by
    obtain ⟨a1, a2⟩ := List.pairwise_cons.1 h1
    obtain ⟨b1, b2⟩ := List.pairwise_cons.1 h2
    have e : x = y := by
      rcases List.mem_cons.1 (h.mem_iff.1 (List.mem_cons_self ..)) with e | q1
      · exact e
      · rcases List.mem_cons.1 (h.mem_iff.2 (List.mem_cons_self ..)) with e | q2
        · exact e.symm
        · exact anti _ _ (a1 _ q2) (b1 _ q1)
    subst e
    exact congrArg _ (perm_sorted_eq anti a b ((List.perm_cons x).1 h) a2 b2)
open Go.Proofs.Ytgbfkpcigipniaa in
def ordH (d : List Int) (x y : Nat) : Int := orI [cmpI (gt0 d x) (gt0 d y), cmpI (y : Int) (x : Int)]
theorem ordH_neg (d : List Int) (x y : Nat) : ordH d x y < 0 ↔ gt0 d x < gt0 d y ∨ gt0 d x = gt0 d y ∧ y < x := by
  have h1 := cmpI_neg (gt0 d x) (gt0 d y)
  have h2 := cmpI_neg (y : Int) (x : Int)
  have h3 := cmpI_zero (gt0 d x) (gt0 d y)
  unfold ordH
  simp only [Go.Proofs.Ytgbfkpcigipniaa.orI]
  by_cases e : cmpI (gt0 d x) (gt0 d y) ≠ 0
  · rw [if_pos e, h1]; rw [ne_eq, h3] at e; omega
  · rw [if_neg e]
    have e2 : gt0 d x = gt0 d y := h3.1 (by omega)
    by_cases e3 : cmpI (y : Int) (x : Int) ≠ 0
    · rw [if_pos e3, h2]; omega
    · rw [if_neg e3]
      have := (cmpI_zero (y : Int) (x : Int)).1 (by omega)
      omega
def ltHd (d : List Int) (x y : Nat) : Prop := gt0 d x < gt0 d y ∨ gt0 d x = gt0 d y ∧ y < x
end Go.Pl
namespace Go.Proofs.Ytgbfkpcigipniaa
open Go Go.RT Go.Proofs Go.Pl
set_option linter.all false
set_option maxRecDepth 20000
set_option maxHeartbeats 2000000
theorem hcmp_c (d : List Int) (x y : Nat) (hx : x < d.length) (hy : y < d.length) : Pure Try.prog 52 [If .i64 x, If .i64 y, .cellp [VI d]] (If .i64 (ordH d x y)) := by
  have rx := row_of encN d x 0 hx
  have ry := row_of encN d y 0 hy
  have hgx : d.getD x 0 = gt0 d x := rfl
  have hgy : d.getD y 0 = gt0 d y := rfl
  rw [hgx] at rx; rw [hgy] at ry
  unfold ordH
  refine Meets.intro Try.func52 rfl (Nat.le_of_ble_eq_true rfl) fun C hC => ?_
  simp only [List.map, argEnv, Nat.reduceAdd]
  refine nK ?_
  refine s_reg rfl ?_
  first | refine Run.pure (dd := some 5) rfl rfl (op_assign rfl (Opd.const _)) ?_ | refine Run.pure (dd := some 5) rfl rfl (op_junk (.inr rfl)) ?_
  refine Run.nil (FinR.mk ?_)
  refine nK ?_
  refine s_draw mixed ?_
  first | refine Run.load (dd := some 6) rfl rfl (op_load1_flat rfl (Opd.tmp _ _ rfl) tH rfl) ?_ | refine Run.pure (dd := some 6) rfl rfl (op_load1_fz rfl (Opd.tmp _ _ rfl) rfl) ?_ | refine Run.load (dd := some 6) rfl rfl (op_load1_refs rfl (Opd.tmp _ _ rfl) tH rfl) ?_
  first | refine Run.pure (dd := some 7) rfl rfl (op_move rfl (Opd.tmp _ _ rfl)) ?_ | refine Run.pure (dd := some 7) rfl rfl (op_junk (.inl rfl)) ?_
  refine Run.pure (dd := some 8) rfl rfl (op_idx_fz x rfl (Opd.tmp _ _ rfl) (Opd.tmp _ _ rfl) (by intro _; exact ⟨rfl, rx⟩)) ?_
  first | refine Run.load (dd := some 9) rfl rfl (op_load1_flat rfl (Opd.tmp _ _ rfl) tH rfl) ?_ | refine Run.pure (dd := some 9) rfl rfl (op_load1_fz rfl (Opd.tmp _ _ rfl) rfl) ?_ | refine Run.load (dd := some 9) rfl rfl (op_load1_refs rfl (Opd.tmp _ _ rfl) tH rfl) ?_
  first | refine Run.load (dd := some 10) rfl rfl (op_load1_flat rfl (Opd.tmp _ _ rfl) tH rfl) ?_ | refine Run.pure (dd := some 10) rfl rfl (op_load1_fz rfl (Opd.tmp _ _ rfl) rfl) ?_ | refine Run.load (dd := some 10) rfl rfl (op_load1_refs rfl (Opd.tmp _ _ rfl) tH rfl) ?_
  first | refine Run.pure (dd := some 11) rfl rfl (op_move rfl (Opd.tmp _ _ rfl)) ?_ | refine Run.pure (dd := some 11) rfl rfl (op_junk (.inl rfl)) ?_
  refine Run.pure (dd := some 12) rfl rfl (op_idx_fz y rfl (Opd.tmp _ _ rfl) (Opd.tmp _ _ rfl) (by intro _; exact ⟨rfl, ry⟩)) ?_
  first | refine Run.load (dd := some 13) rfl rfl (op_load1_flat rfl (Opd.tmp _ _ rfl) tH rfl) ?_ | refine Run.pure (dd := some 13) rfl rfl (op_load1_fz rfl (Opd.tmp _ _ rfl) rfl) ?_ | refine Run.load (dd := some 13) rfl rfl (op_load1_refs rfl (Opd.tmp _ _ rfl) tH rfl) ?_
  refine Run.pure (dd := some 14) rfl rfl (op_call_pure (fun _ => cmp_c _ _) rfl (Opd.func _) (Opds.cons _ _ _ _ (Opd.tmp _ _ rfl) (Opds.cons _ _ _ _ (Opd.tmp _ _ rfl) Opds.nil))) ?_
  first | refine Run.pure (dd := some 15) rfl rfl (op_move rfl (Opd.tmp _ _ rfl)) ?_ | refine Run.pure (dd := some 15) rfl rfl (op_junk (.inl rfl)) ?_
  first | refine Run.pure (dd := some 16) rfl rfl (op_move rfl (Opd.tmp _ _ rfl)) ?_ | refine Run.pure (dd := some 16) rfl rfl (op_junk (.inl rfl)) ?_
  refine Run.pure (dd := some 17) rfl rfl (op_call_pure (fun _ => cmp_c _ _) rfl (Opd.func _) (Opds.cons _ _ _ _ (Opd.tmp _ _ rfl) (Opds.cons _ _ _ _ (Opd.tmp _ _ rfl) Opds.nil))) ?_
  refine Run.pure (dd := some 18) rfl rfl (op_buildSlice_fz rfl (RowsF.cons _ _ _ _ _ _ (Opd.tmp _ _ rfl) tC (by rfl) (RowsF.cons _ _ _ _ _ _ (Opd.tmp _ _ rfl) tC (by rfl) (RowsF.nil _))) rfl rfl) ?_
  refine Run.pure (dd := some 19) rfl rfl (op_call_pure (fun _ => or_c [_, _] (by simp)) rfl (Opd.func _) (Opds.cons _ _ _ _ (Opd.tmp _ _ rfl) Opds.nil)) ?_
  first | refine Run.pure (dd := some 5) rfl rfl (op_assign rfl (Opd.tmp _ _ rfl)) ?_ | refine Run.pure (dd := some 5) rfl rfl (op_junk (.inr rfl)) ?_
  refine Run.nil (FinD.mk (by kernel_rfl) ?_)
  refine nK ?_
  (first | exact s_o1 hC rfl tV | exact s_o2 hC rfl tV tV | exact s_o3 hC rfl tV tV tV | exact s_out0 hC rfl | exact s_outO hC rfl rfl rfl)
theorem swo_h (d : List Int) (n : Nat) : Go.Sort.SWO (ltOf fun x y : Fin n => ordH d x y) := by
  have e : ∀ x y : Fin n, ltOf (fun x y : Fin n => ordH d x y) x y = decide (gt0 d x < gt0 d y ∨ gt0 d x = gt0 d y ∧ y.val < x.val) := fun x y => by
    unfold ltOf; rw [Bool.eq_iff_iff]; simp [ordH_neg]
  refine ⟨fun x => ?_, fun x y z h1 h2 => ?_, fun x y z h1 h2 => ?_⟩
  · rw [e]; simp
  · rw [e] at *; simp only [decide_eq_true_eq] at *; omega
  · rw [e] at *; simp only [decide_eq_false_iff_not] at *; omega
theorem sorth_c (d : List Int) (l l2 : List Nat) (hd : 0 < d.length) (hl : ∀ v ∈ l, v < d.length) (hm : l.length ≤ 2000000) (hp : l2.Perm l) (hs : l2.Pairwise (ltHd d)) : Meets Try.prog 51 [.sl 0 1 0 l.length, .fz (.clo 52 [.cellp [VI d]])] 1 [(0, OT l)] (.fz (.tup [])) [(0, OT l2)] 1 := by
  haveI : Inhabited (Fin d.length) := ⟨⟨0, hd⟩⟩
  have hl' : ∀ v ∈ l, v < d.length := hl
  let lf : List (Fin d.length) := l.pmap (fun v h => ⟨v, h⟩) hl'
  have hlf : lf.map (fun x => x.val) = l := by simp [lf, List.map_pmap]
  have hll : lf.length = l.length := by simp [lf]
  obtain ⟨s1, s2, s3⟩ := sortBy_spec (fun x y : Fin d.length => ordH d x y) (swo_h d d.length) lf
  have hr : (sortBy (fun x y : Fin d.length => ordH d x y) lf).map (fun x => x.val) = l2 := by
    refine perm_sorted_eq (le := fun x y => ¬ ltHd d y x) (fun a b h1 h2 => by unfold ltHd at *; omega) _ _ ?_ ?_ ?_
    · exact ((s1.map _).trans (by rw [hlf])).trans hp.symm
    · rw [List.pairwise_map, List.pairwise_iff_getElem]
      intro i j hi hj hij h
      exact s3 i j _ _ hij (List.getElem?_eq_getElem hi) (List.getElem?_eq_getElem hj) ((ordH_neg _ _ _).2 h)
    · exact hs.imp fun h1 h2 => by unfold ltHd at *; omega
  have := sort1_meets (ρ := Try.sortFI_ren) Try.sortFI (ev := fun x : Fin d.length => .int .i64 (x.val : Int)) (fun x => rfl) (swo_h d d.length) (g := 52) (caps := [.cellp [VI d]]) (fun x y => hcmp_c d x y x.isLt y.isLt) (l := lf) (by omega)
  rw [hll] at this
  have e1 : ∀ q : List (Fin d.length), q.map (fun x => [FV.lit (.int .i64 (x.val : Int))]) = (q.map (fun x => x.val)).map encT := fun q => by rw [List.map_map]; rfl
  rw [e1, e1, hlf, hr] at this
  exact this
end Go.Proofs.Ytgbfkpcigipniaa
namespace Go.Pl
open Go Go.RT
set_option linter.all false
/- merge: a number put into an ascending list, once -/
def bsI (l : List Int) (x : Int) : Nat := bsGo (fun e => decide (e < x)) l 0 l.length
def hitI (l : List Int) (x : Int) : Bool := hitAt (fun e => decide (e = x)) l (bsI l x)
def insU (l : List Int) (x : Int) : List Int := if hitI l x = true then l else insL l (bsI l x) x
theorem bsI_le (l : List Int) (x : Int) : bsI l x ≤ l.length := (bsGo_le (fun e => decide (e < x)) l (l.length) 0 l.length (by omega) (Nat.zero_le _) (Nat.le_refl _)).2
def capV (r : Int) (v : Nat) (h : Int) : Int := if r ≤ h then (v : Int) else h
end Go.Pl
namespace Go.Pl
open Go Go.RT
set_option linter.all false
/- hops, as the program makes them -/
theorem insU_spec {l : List Int} (h : Asc l) (x : Int) : Asc (insU l x) ∧ ∀ y, y ∈ insU l x ↔ y = x ∨ y ∈ l := by
  have hle := bsI_le l x
  have hg : ∀ a b (ha : a < b) (hb : b < l.length), l[a] < l[b] := fun a b ha hb => List.pairwise_iff_getElem.1 h a b (by omega) hb ha
  have h2 := bsGo_spec (fun e => decide (e < x)) l (fun a b ha hb hp => by
    have := hg a b ha hb
    simp only [decide_eq_true_eq] at hp ⊢; omega) l.length 0 l.length (by omega) (Nat.zero_le _) (Nat.le_refl _) (fun k hk => absurd hk (Nat.not_lt_zero _)) (fun k hk hl => absurd hl (by omega))
  have h3 : ∀ k (hk : k < bsI l x) (hl : k < l.length), l[k] < x := fun k hk hl => by simpa using h2.1 k hk hl
  have h4 : ∀ k (hk : bsI l x ≤ k) (hl : k < l.length), x ≤ l[k] := fun k hk hl => by simpa using h2.2 k hk hl
  unfold insU hitI hitAt
  by_cases hb : bsI l x < l.length
  · rw [List.getElem?_eq_getElem hb]
    simp only [decide_eq_true_eq]
    by_cases he : l[bsI l x] = x
    · rw [if_pos he]
      refine ⟨h, fun y => ⟨fun hy => .inr hy, fun hy => ?_⟩⟩
      rcases hy with h5 | hy
      · rw [h5, ← he]; exact List.getElem_mem hb
      · exact hy
    · rw [if_neg he]
      refine ⟨?_, fun y => ?_⟩
      · unfold insL
        refine List.pairwise_append.2 ⟨h.sublist (List.take_sublist _ _), List.pairwise_cons.2 ⟨fun y hy => ?_, h.sublist (List.drop_sublist _ _)⟩, fun a ha b hb2 => ?_⟩
        · obtain ⟨k, hk, rfl⟩ := List.mem_iff_getElem.1 hy
          rw [List.getElem_drop]
          have q1 := h4 (bsI l x + k) (by omega) (by simp at hk; omega)
          by_cases e : k = 0
          · subst e; simp only [Nat.add_zero] at q1 ⊢; omega
          · have := hg (bsI l x) (bsI l x + k) (by omega) (by simp at hk; omega)
            have := h4 (bsI l x) (Nat.le_refl _) hb
            omega
        · obtain ⟨k, hk, rfl⟩ := List.mem_iff_getElem.1 ha
          rw [List.getElem_take]
          rw [List.length_take] at hk
          have q1 := h3 k (by omega) (by omega)
          rcases List.mem_cons.1 hb2 with rfl | hb2
          · exact q1
          · obtain ⟨k2, hk2, rfl⟩ := List.mem_iff_getElem.1 hb2
            rw [List.getElem_drop]
            simp at hk2
            exact hg k (bsI l x + k2) (by omega) (by omega)
      · unfold insL
        rw [List.mem_append, List.mem_cons]
        have : y ∈ l ↔ y ∈ l.take (bsI l x) ∨ y ∈ l.drop (bsI l x) := by rw [← List.mem_append, List.take_append_drop]
        rw [this]; constructor
        · rintro (h | h | h)
          · exact .inr (.inl h)
          · exact .inl h
          · exact .inr (.inr h)
        · rintro (h | h | h)
          · exact .inr (.inl h)
          · exact .inl h
          · exact .inr (.inr h)
  · have hbe : bsI l x = l.length := by omega
    rw [List.getElem?_eq_none (by omega)]
    rw [if_neg (by simp), hbe]
    unfold insL
    rw [List.take_length, List.drop_length]
    refine ⟨List.pairwise_append.2 ⟨h, by simp, fun a ha b hb2 => ?_⟩, fun y => by simp [or_comm]⟩
    have : b = x := by simpa using hb2
    subst this
    obtain ⟨k, hk, rfl⟩ := List.mem_iff_getElem.1 ha
    exact h3 k (by omega) hk
/-- ascending, all of them nodes -/
def RowOk (n : Nat) (l : List Int) : Prop := Asc l ∧ ∀ x ∈ l, 0 ≤ x ∧ x < n
theorem RowOk.len {n : Nat} {l : List Int} (h : RowOk n l) : l.length ≤ n := by
  have := nodup_len n (l.map Int.toNat) (by
    rw [List.Nodup, List.pairwise_map]
    refine h.1.imp_of_mem fun ha hb hab e => ?_
    have := h.2 _ ha; have := h.2 _ hb; omega) (fun x hx => by
      obtain ⟨y, hy, rfl⟩ := List.mem_map.1 hx
      have := h.2 y hy; omega)
  simpa using this
theorem RowOk.ins {n : Nat} {l : List Int} (h : RowOk n l) {x : Int} (hx : 0 ≤ x ∧ x < n) : RowOk n (insU l x) :=
  ⟨(insU_spec h.1 x).1, fun y hy => by
    rcases ((insU_spec h.1 x).2 y).1 hy with rfl | hy
    · exact hx
    · exact h.2 y hy⟩
abbrev rowAt' (ll : List (List Int)) (v : Nat) : List Int := ll.getD v []
def mergeL (r : Int) (v : Nat) (ll : List (List Int)) (h : Int) : List (List Int) := ll.set v (insU (rowAt' ll v) (capV r v h))
def stepU (r : Int) (a v : Nat) (ll : List (List Int)) (u : Int) : List (List Int) :=
  (rowAt' ll u.toNat).foldl (mergeL r v) (if u = (a : Int) then mergeL r v ll (v : Int) else ll)
def hopsV (r : Int) (a : Nat) (up : List (List Int)) (ll : List (List Int)) (v : Nat) : List (List Int) := (rowAt' up v).foldl (stepU r a v) ll
def hopsL (r : Int) (a n : Nat) (up : List (List Int)) (order : List Nat) : List (List Int) := order.foldl (hopsV r a up) (List.replicate n [])
structure LLok (n : Nat) (ll : List (List Int)) : Prop where
  len : ll.length = n
  row : ∀ v, v < n → RowOk n (rowAt' ll v)
theorem LLok.merge {n : Nat} {ll : List (List Int)} (h : LLok n ll) (r : Int) {v : Nat} (hv : v < n) {x : Int} (hx : 0 ≤ x ∧ x < n) : LLok n (mergeL r v ll x) := by
  refine ⟨by rw [mergeL, List.length_set, h.len], fun w hw => ?_⟩
  unfold mergeL rowAt'
  rw [getD_set _ _ _ _ _ (by rw [h.len]; exact hv)]
  by_cases e : v = w
  · rw [if_pos e]; exact (h.row v hv).ins (by unfold capV; split <;> omega)
  · rw [if_neg e]; exact h.row w hw
theorem merge_other (r : Int) (v : Nat) (ll : List (List Int)) (x : Int) {u : Nat} (h : u ≠ v) : rowAt' (mergeL r v ll x) u = rowAt' ll u := by
  unfold mergeL rowAt'
  rw [List.getD_eq_getElem?_getD, List.getElem?_set_ne (fun e => h e.symm), ← List.getD_eq_getElem?_getD]
theorem foldl_take_succ {α β : Type} (f : β → α → β) (b : β) (l : List α) (i : Nat) (h : i < l.length) : (l.take (i + 1)).foldl f b = f ((l.take i).foldl f b) l[i] := by
  rw [← List.take_append_getElem h, List.foldl_append]; rfl
/-- rows with one cell taken -/
def tkL (irs : List (List (List FV))) (u k : Nat) : List (List PV) := (ownL 1 irs).set u [PV.sl 2 1 0 k]
theorem renO_tk {L : List Nat} (h : renI L 2 = 2) (irs : List (List (List FV))) (u k : Nat) : renO L (.refs 1 (tkL irs u k)) = .refs 1 (tkL irs u k) := by
  have h1 := renO_own L 1 irs
  simp only [renO, Ob.refs.injEq, true_and] at h1 ⊢
  unfold tkL
  rw [List.map_set, h1]
  simp [renPs, renP, h]
theorem ltO_tk {n : Nat} (h : 2 < n) (irs : List (List (List FV))) (u k : Nat) : ltO n (.refs 1 (tkL irs u k)) := fun r hr => by
  rcases List.mem_or_eq_of_mem_set hr with h1 | rfl
  · exact ltO_own n 1 irs r h1
  · simp [ltPs, ltP, Nat.blt_eq, h]
theorem ent_tk {L F : List Nat} {H : Hp} {id : Nat} {irs : List (List (List FV))} {u k : Nat} (h1 : Nat.blt id L.length = true) (h2 : F.contains (renI L id) = false) (hr : renI L 2 = 2) (hl : 2 < L.length) (h3 : hlook H (renI L id) = some (.refs 1 (tkL irs u k))) : Nat.blt id L.length = true ∧ F.contains (renI L id) = false ∧ EntO L F H (renI L id) (.refs 1 (tkL irs u k)) :=
  ent_same h1 h2 (by rw [renO_tk hr]; exact h3) (ltO_tk hl _ _ _)
theorem tk_get {irs : List (List (List FV))} {u v k : Nat} {r : List (List FV)} (hne : u ≠ v) (h : irs[v]? = some r) : (tkL irs u k)[v]? = some [PV.own 1 r] := by
  unfold tkL; rw [List.getElem?_set_ne hne]; exact ownL_get h
theorem tk_len (irs : List (List (List FV))) (u k : Nat) : (tkL irs u k).length = irs.length := by unfold tkL; rw [List.length_set, ownL_len]
theorem tk_back {irs : List (List (List FV))} {u v k : Nat} {x y : List PV} {r : List (List FV)} (hne : u ≠ v) : (((tkL irs u k).set v x).set v y).set v [PV.own 1 r] = tkL (irs.set v r) u k := by
  rw [List.set_set, List.set_set]; unfold tkL
  rw [List.set_comm _ _ (by omega), ownL_set]
theorem tk_back2 {irs : List (List (List FV))} {u v k : Nat} {x : List PV} {r : List (List FV)} (hne : u ≠ v) : ((tkL irs u k).set v x).set v [PV.own 1 r] = tkL (irs.set v r) u k := by
  rw [List.set_set]; unfold tkL
  rw [List.set_comm _ _ (by omega), ownL_set]
theorem tk_put {irs : List (List (List FV))} {u k : Nat} {r : List (List FV)} (h : irs[u]? = some r) : (tkL irs u k).set u [PV.own 1 r] = ownL 1 irs := by
  unfold tkL
  rw [List.set_set, ownL_set]
  congr 1
  apply List.ext_getElem?
  intro i
  rw [List.getElem?_set]
  by_cases e : u = i
  · subst e
    have hlt := (List.getElem?_eq_some_iff.1 h).1
    rw [if_pos rfl, if_pos hlt, h]
  · rw [if_neg e]
end Go.Pl
