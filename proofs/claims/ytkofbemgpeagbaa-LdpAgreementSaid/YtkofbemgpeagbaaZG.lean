/- A part of the proof: DP19, DP20, D18, LD. -/
import Derived.Test.YtkofbemgpeagbaaZF
set_option linter.all false
/- Two peers: each knows the other's labels when all messages have arrived. No program in sight. -/
namespace Go.Pl
open Go Go.RT
set_option linter.all false
/-- what a message makes of the labels of the peer n -/
def apM (n : Int) (R : List Bnd) (m : Mal) : List Bnd :=
  let x := (decodeF m.da).1
  if x.k = 1 then bindL R ⟨x.px, n, x.la⟩ else if x.k = 2 then (if findB R x.px n = some x.la then unbL R x.px n else R) else R
def wtM (m : Mal) : Nat := if (decodeF m.da).1.k = 2 then 2 else 1
def wtQ (q : List Mal) : Nat := (q.map wtM).sum
theorem wtQ_app (a b : List Mal) : wtQ (a ++ b) = wtQ a + wtQ b := by simp [wtQ]
theorem wtM_pos (m : Mal) : 1 ≤ wtM m := by unfold wtM; split <;> omega
theorem wtQ_len (q : List Mal) : q.length ≤ wtQ q := by
  induction q with
  | nil => simp [wtQ]
  | cons m q ih => have := wtM_pos m; simp [wtQ] at ih ⊢; omega
def subQ (i : Nat) (q : List Mal) : List Mal := q.filter fun m => decide (m.fr = i)
theorem subQ_app (i : Nat) (a b : List Mal) : subQ i (a ++ b) = subQ i a ++ subQ i b := List.filter_append ..
/-- a message on its way, well formed, no request -/
structure mlOk (m : Mal) : Prop where
  e : ∃ x : Msg, okM x ∧ goodM x ∧ x.k ≤ 3 ∧ m.da = (encodeF x).1 ∧ decodeF m.da = (x, 0)
theorem mlOk.mk' {i : Nat} {n : Int} {x : Msg} (h : okM x) (hg : goodM x) (h3 : x.k ≤ 3) : mlOk (mkMl i ⟨n, (encodeF x).1⟩) := by
  refine ⟨x, h, hg, h3, rfl, ?_⟩
  show decodeF (encodeF x).1 = _
  have h0 := (msgE_iff x).2 hg
  have : (encodeF x).1 = encMb x := by unfold encodeF; rw [if_neg (by simpa using h0)]
  rw [this]; exact enc_dec h h0
theorem dec_of {x : Msg} (h : okM x) (hg : goodM x) : decodeF (encodeF x).1 = (x, 0) := by
  have h0 := (msgE_iff x).2 hg
  have : (encodeF x).1 = encMb x := by unfold encodeF; rw [if_neg (by simpa using h0)]
  rw [this]; exact enc_dec h h0
/-- what bindings are sent of -/
structure gB (b : Bnd) : Prop where
  px : b.px.ok
  v : validB b.px = true
  la : b.la = 3 ∨ (16 ≤ b.la ∧ b.la ≤ 1048575)
theorem gB.msg {b : Bnd} (h : gB b) {k : Int} (h1 : 1 ≤ k) (h3 : k ≤ 3) : okM ⟨k, b.px, b.la⟩ ∧ goodM ⟨k, b.px, b.la⟩ := by
  have := h.la
  exact ⟨⟨by simp only [inr]; omega, h.px, by simp only [inr]; omega⟩, ⟨h1, by show k ≤ 4; omega, h.v, fun e => by have : k = 4 := e; omega, fun _ => h.la⟩⟩
/-- ascending lists within one another -/
theorem asc_len {α : Type} (key : α → Pfx) : ∀ {A : List α} {B : List Fec}, A.Pairwise (fun a b => ltPf (key a) (key b)) → B.Pairwise (fun a b => ltPf a.px b.px) → (∀ a ∈ A, ∃ b ∈ B, b.px = key a) → A.length ≤ B.length
  | [], _, _, _, _ => by simp
  | a :: A, [], _, _, h => by obtain ⟨b, hb, _⟩ := h a (List.mem_cons_self ..); cases hb
  | a :: A, b :: B, hA, hB, h => by
    obtain ⟨a1, a2⟩ := List.pairwise_cons.1 hA
    obtain ⟨b1, b2⟩ := List.pairwise_cons.1 hB
    have : A.length ≤ B.length := asc_len key a2 b2 fun x hx => by
      obtain ⟨y, hy, he⟩ := h x (List.mem_cons_of_mem _ hx)
      rcases List.mem_cons.1 hy with rfl | hy
      · obtain ⟨z, hz, hze⟩ := h a (List.mem_cons_self ..)
        have hlt := a1 x hx
        rw [← he, ← hze] at hlt
        rcases List.mem_cons.1 hz with rfl | hz
        · exact hlt.irr.elim
        · exact (hlt.trans (b1 z hz)).irr.elim
      · exact ⟨y, hy, he⟩
    simp; omega
/-- labels of routes are no more than routes -/
theorem routes_len {s : Lst} (h : vD s.ro s.fr s.lc) {l : List Fec} (hl : ascX l) : (bindF s l (dropF s l)).2.1.length ≤ l.length := by
  have hv := (routes_ok h l).1
  refine asc_len (fun b : Bnd => b.px) hv.hl hl fun b hb => ?_
  refine bindF_px (Q := fun p => ∃ x ∈ l, x.px = p) ?_ (fun x hx => ⟨x, hx, rfl⟩) b hb
  obtain ⟨_, k3⟩ := drop_ok (ps := s.ps) (l := l) (f0 := []) s.lc [] s.fr [] h
  show ∀ b ∈ (dropF s l).2.1, _
  unfold dropF
  rw [k3]
  intro c hc
  have hk : okB l c = true := (List.mem_filter.1 (by simpa using hc)).2
  unfold okB at hk
  cases hf : routeF l c.px with
  | none => rw [hf] at hk; cases hk
  | some x => exact ⟨x, List.mem_of_find?_eq_some hf, by have := List.find?_some hf; simpa using this⟩
theorem routes_v {s : Lst} (h : vD s.ro s.fr s.lc) {l : List Fec} (hl : ∀ b ∈ s.lc, validB b.px = true) (hx : ∀ x ∈ l, validB x.px = true) : ∀ b ∈ (bindF s l (dropF s l)).2.1, validB b.px = true := by
  refine bindF_px (Q := fun p => validB p = true) ?_ hx
  obtain ⟨_, k3⟩ := drop_ok (ps := s.ps) (l := l) (f0 := []) s.lc [] s.fr [] h
  show ∀ b ∈ (dropF s l).2.1, _
  unfold dropF
  rw [k3]
  intro b hb
  exact hl b (List.mem_filter.1 (by simpa using hb)).1
/-! what one peer is told -/
/-- a list of messages of the router n, given to one peer only, that turns its labels from A to B -/
structure told (i : Nat) (n pe : Int) (A B : List Bnd) (o : List Snd) : Prop where
  ap : (pushQ i o).foldl (apM n) A = B
  ok : ∀ m ∈ pushQ i o, mlOk m ∧ m.to = (pe - 1).toNat ∧ m.fr = i
  pe : ∀ m ∈ o, m.pe = pe
theorem told.nil (i : Nat) (n pe : Int) (A : List Bnd) : told i n pe A A [] := ⟨rfl, by simp [pushQ], by simp⟩
theorem told.app {i : Nat} {n pe : Int} {A B D : List Bnd} {o p : List Snd} (h : told i n pe A B o) (k : told i n pe B D p) : told i n pe A D (o ++ p) := by
  refine ⟨?_, fun m hm => ?_, fun m hm => ?_⟩
  · unfold pushQ; rw [List.map_append, List.foldl_append]
    have := h.ap; unfold pushQ at this; rw [this]; exact k.ap
  · unfold pushQ at hm; rw [List.map_append] at hm
    rcases List.mem_append.1 hm with hm | hm
    · exact h.ok m hm
    · exact k.ok m hm
  · rcases List.mem_append.1 hm with hm | hm
    · exact h.pe m hm
    · exact k.pe m hm
theorem told.map {i : Nat} {n pe : Int} {A : List Bnd} {b : Bnd} (hb : gB b) (hn : b.pe = n) : told i n pe A (bindL A b) [msgS pe 1 b.px b.la] := by
  obtain ⟨h1, h2⟩ := hb.msg (k := 1) (by omega) (by omega)
  refine ⟨?_, fun m hm => ?_, fun m hm => ?_⟩
  · simp only [pushQ, List.map_cons, List.map_nil, List.foldl_cons, List.foldl_nil]
    unfold apM mkMl msgS
    dsimp only
    rw [dec_of h1 h2]
    dsimp only
    rw [if_pos rfl]
    subst hn; rfl
  · simp only [pushQ, List.map_cons, List.map_nil, List.mem_singleton] at hm
    subst hm
    exact ⟨mlOk.mk' h1 h2 (by show (1 : Int) ≤ 3; omega), rfl, rfl⟩
  · simp only [List.mem_singleton] at hm; subst hm; rfl
theorem told.wd {i : Nat} {n pe : Int} {A : List Bnd} {b : Bnd} (hb : gB b) (hf : findB A b.px n = some b.la) : told i n pe A (unbL A b.px n) [msgS pe 2 b.px b.la] := by
  obtain ⟨h1, h2⟩ := hb.msg (k := 2) (by omega) (by omega)
  refine ⟨?_, fun m hm => ?_, fun m hm => ?_⟩
  · simp only [pushQ, List.map_cons, List.map_nil, List.foldl_cons, List.foldl_nil]
    unfold apM mkMl msgS
    dsimp only
    rw [dec_of h1 h2]
    dsimp only
    rw [if_neg (by omega), if_pos rfl, if_pos hf]
  · simp only [pushQ, List.map_cons, List.map_nil, List.mem_singleton] at hm
    subst hm
    exact ⟨mlOk.mk' h1 h2 (by show (2 : Int) ≤ 3; omega), rfl, rfl⟩
  · simp only [List.mem_singleton] at hm; subst hm; rfl
theorem told.rel {i : Nat} {n pe : Int} {A : List Bnd} {x : Msg} (h1 : okM x) (h2 : goodM x) (hk : x.k = 2) : told i n pe A A [msgS pe 3 x.px x.la] := by
  have g1 : okM ⟨3, x.px, x.la⟩ := ⟨by simp [inr], h1.px, h1.la⟩
  have g2 : goodM ⟨3, x.px, x.la⟩ := ⟨by show (1 : Int) ≤ 3; omega, by show (3 : Int) ≤ 4; omega, h2.px, fun e => by have : (3 : Int) = 4 := e; omega, fun _ => h2.ln (by omega)⟩
  refine ⟨?_, fun m hm => ?_, fun m hm => ?_⟩
  · simp only [pushQ, List.map_cons, List.map_nil, List.foldl_cons, List.foldl_nil]
    unfold apM mkMl msgS
    dsimp only
    rw [dec_of g1 g2]
    dsimp only
    rw [if_neg (by omega), if_neg (by omega)]
  · simp only [pushQ, List.map_cons, List.map_nil, List.mem_singleton] at hm
    subst hm
    exact ⟨mlOk.mk' g1 g2 (by show (3 : Int) ≤ 3; omega), rfl, rfl⟩
  · simp only [List.mem_singleton] at hm; subst hm; rfl
/-- the labels that go, one after the other -/
theorem told_drop {i : Nat} {n pe : Int} {l : List Fec} : ∀ (R K : List Bnd) (fr : List Rg) (o : List Snd) (A : List Bnd), vD n fr (K ++ R) → (∀ b ∈ K ++ R, gB b) → told i n pe A (K ++ R) o → told i n pe A (R.foldl (pdS n [pe] l) (fr, K ++ R, o)).2.1 (R.foldl (pdS n [pe] l) (fr, K ++ R, o)).2.2
  | [], K, fr, o, A, _, _, ht => ht
  | b :: R, K, fr, o, A, h, hg, ht => by
    rw [List.foldl_cons]
    have hbm : b ∈ K ++ b :: R := List.mem_append_right _ (List.mem_cons_self ..)
    by_cases c : okB l b = true
    · rw [show pdS n [pe] l (fr, K ++ b :: R, o) b = (fr, (K ++ [b]) ++ R, o) by simp [pdS, c]]
      exact told_drop R (K ++ [b]) fr o A (by simpa using h) (by simpa using hg) (by simpa using ht)
    · obtain ⟨k1, k2, _⟩ := drop1 h
      have hb := h.pe b hbm
      have hub : unbL (K ++ b :: R) b.px n = K ++ R := unb_one h.hl hb
      have e1 : pdS n [pe] l (fr, K ++ b :: R, o) b = (frD fr b, K ++ R, o ++ [msgS pe 2 b.px b.la]) := by
        simp only [pdS]
        rw [if_neg c, hub]
        unfold frD
        by_cases e : b.la = 3
        · rw [if_neg (by simpa using e), if_neg (by simpa using e)]; rfl
        · rw [if_pos e, if_pos e, if_pos (k2 e)]; rfl
      rw [e1]
      have hf : findB (K ++ b :: R) b.px n = some b.la := by
        unfold findB
        have hne := pw_ne h.hl (K := K) (R := R) rfl
        rw [List.find?_append]
        have : K.find? (isBn b.px n) = none := List.find?_eq_none.2 fun x hx => by
          have := hne x (List.mem_append_left _ hx)
          simp [isBn, this]
        rw [this, List.find?_cons]
        simp [isBn, hb]
      have ht2 := ht.app (told.wd (i := i) (pe := pe) (hg b hbm) hf)
      rw [hub] at ht2
      refine told_drop R K _ _ A k1 (fun x hx => hg x ?_) ht2
      rcases List.mem_append.1 hx with hx | hx
      · exact List.mem_append_left _ hx
      · exact List.mem_append_right _ (List.mem_cons_of_mem _ hx)
theorem told_bind {i : Nat} {n pe : Int} : ∀ (l : List Fec) (s : DSt) (A : List Bnd), (∀ x ∈ l, x.px.ok ∧ validB x.px = true) → told i n pe A s.2.1 s.2.2 → told i n pe A (l.foldl (bindS n [pe]) s).2.1 (l.foldl (bindS n [pe]) s).2.2
  | [], s, A, _, ht => ht
  | x :: l, s, A, hx, ht => by
    rw [List.foldl_cons]
    obtain ⟨hp, hv⟩ := hx x (List.mem_cons_self ..)
    refine told_bind l _ A (fun y hy => hx y (List.mem_cons_of_mem _ hy)) ?_
    unfold bindS
    split
    · exact ht
    · split
      · exact ht.app (told.map (b := ⟨x.px, n, 3⟩) ⟨hp, hv, .inl rfl⟩ rfl)
      · split
        · exact ht
        · next k =>
          have := takeF_ok (l := s.1) (by simpa using k)
          exact ht.app (told.map (b := ⟨x.px, n, (takeF s.1).1⟩) ⟨hp, hv, .inr this⟩ rfl)
theorem told_routes {i : Nat} {s : Lst} {pe : Int} (h : vD s.ro s.fr s.lc) (hp : s.ps = [pe]) (hg : ∀ b ∈ s.lc, gB b) {l : List Fec} (hx : ∀ x ∈ l, x.px.ok ∧ validB x.px = true) : told i s.ro pe s.lc (bindF s l (dropF s l)).2.1 (bindF s l (dropF s l)).2.2 := by
  rw [← routes_eq h, hp]
  unfold bdG pdG
  rw [List.take_length, List.take_length]
  exact told_bind l _ _ hx (told_drop s.lc [] s.fr [] s.lc (by simpa using h) (by simpa using hg) (told.nil _ _ _ _))
end Go.Pl
/- Two peers, event by event. No program in sight. -/
namespace Go.Pl
open Go Go.RT
set_option linter.all false
structure AG (t : Nat) (a b : Lst) (q : List Mal) : Prop where
  va : okV a
  vb : okV b
  ra : a.ro = 1
  rb : b.ro = 2
  pa : a.ps = [2]
  pb : b.ps = [1]
  ga : ∀ x ∈ a.lc, gB x
  gb : ∀ x ∈ b.lc, gB x
  la : a.lc.length ≤ 40
  lb : b.lc.length ≤ 40
  fa : a.fr.length ≤ 1 + 40 * t
  fb : b.fr.length ≤ 1 + 40 * t
  n : a.rm.length + b.rm.length + wtQ q ≤ 160 * t
  mq : ∀ m ∈ q, mlOk m ∧ (m.fr = 0 ∧ m.to = 1 ∨ m.fr = 1 ∧ m.to = 0)
  ab : (subQ 0 q).foldl (apM 1) b.rm = a.lc
  ba : (subQ 1 q).foldl (apM 2) a.rm = b.lc
theorem AG.mono {t : Nat} {a b : Lst} {q : List Mal} (h : AG t a b q) : AG (t + 1) a b q := { h with fa := by have := h.fa; omega, fb := by have := h.fb; omega, n := by have := h.n; omega }
theorem AG.oka {t : Nat} {a b : Lst} {q : List Mal} (h : AG t a b q) (ht : t ≤ 20) : okLs a := h.va.all (by have := h.fa; omega) (by have := h.la; omega) (by have := h.n; omega) (by rw [h.pa]; simp)
theorem AG.okb {t : Nat} {a b : Lst} {q : List Mal} (h : AG t a b q) (ht : t ≤ 20) : okLs b := h.vb.all (by have := h.fb; omega) (by have := h.lb; omega) (by have := h.n; omega) (by rw [h.pb]; simp)
theorem apM_len (n : Int) (R : List Bnd) (m : Mal) : (apM n R m).length ≤ R.length + 1 := by
  unfold apM
  dsimp only
  split
  · exact bindL_len _ _
  · split
    · split
      · exact Nat.le_trans (unbL_len _ _ _) (by omega)
      · omega
    · omega
/-- a message that arrives -/
theorem dl_step {s : Lst} {n : Int} {m : Mal} (hm : mlOk m) (hp : s.ps.contains n = true) : ∃ o, dataF s n m.da = ({ s with rm := apM n s.rm m }, o, 0) ∧ (o = [] ∨ ∃ x : Msg, o = [msgS n 3 x.px x.la] ∧ okM x ∧ goodM x ∧ x.k = 2) ∧ ∀ i, wtQ (pushQ i o) + 1 ≤ wtM m := by
  obtain ⟨x, h1, h2, h3, h4, h5⟩ := hm.e
  have hz : ∀ i, wtQ (pushQ i []) + 1 ≤ wtM m := fun i => by have := wtM_pos m; simp [wtQ, pushQ]; omega
  have hr : (s.rm = s.rm) := rfl
  unfold dataF apM
  rw [if_neg (by rw [hp]; decide), h5]
  dsimp only
  rw [if_neg (by simp)]
  by_cases k1 : x.k = 1
  · rw [if_pos k1, if_pos k1]
    exact ⟨[], rfl, .inl rfl, hz⟩
  · rw [if_neg k1, if_neg k1]
    by_cases k2 : x.k = 2
    · rw [if_pos k2, if_pos k2]
      by_cases f : findB s.rm x.px n = some x.la
      · rw [if_pos f, if_pos f]
        refine ⟨_, rfl, .inr ⟨x, rfl, h1, h2, k2⟩, fun i => ?_⟩
        have g1 : okM ⟨3, x.px, x.la⟩ := ⟨by simp [inr], h1.px, h1.la⟩
        have g2 : goodM ⟨3, x.px, x.la⟩ := ⟨by show (1 : Int) ≤ 3; omega, by show (3 : Int) ≤ 4; omega, h2.px, fun e => by have : (3 : Int) = 4 := e; omega, fun _ => h2.ln (by omega)⟩
        have e1 : wtM (mkMl i (msgS n 3 x.px x.la)) = 1 := by
          unfold wtM mkMl msgS
          dsimp only
          rw [dec_of g1 g2]
          dsimp only
          rw [if_neg (by omega)]
        have e2 : wtM m = 2 := by unfold wtM; rw [h5]; dsimp only; rw [if_pos k2]
        simp [wtQ, pushQ, e1, e2]
      · rw [if_neg f, if_neg f]
        exact ⟨[], rfl, .inl rfl, hz⟩
    · rw [if_neg k2, if_neg k2, if_neg (by omega)]
      exact ⟨[], rfl, .inl rfl, hz⟩
theorem dlv_eq (s : Lst) (m : Mal) : handleF s (dlvE m) = dataF s (m.fr + 1) m.da := by
  unfold handleF dlvE
  dsimp only
  rw [if_neg (by omega), if_neg (by omega), if_pos rfl]
theorem dlv_ok {m : Mal} (h : mlOk m) : okLe (dlvE m) := by
  obtain ⟨x, h1, h2, h3, h4, h5⟩ := h.e
  have := encodeF_len x
  refine ⟨by simp [dlvE, inr], ?_, ?_, by simp [dlvE], by simp [dlvE]⟩
  · show ∀ y ∈ m.da, _
    rw [h4]; exact encodeF_byte
  · show m.da.length ≤ _
    rw [h4]; omega
/-- what is sent back changes nothing at the other side -/
theorem rel_told {n : Int} {o : List Snd} (h : o = [] ∨ ∃ x : Msg, o = [msgS n 3 x.px x.la] ∧ okM x ∧ goodM x ∧ x.k = 2) (i : Nat) (r : Int) (A : List Bnd) : told i r n A A o := by
  rcases h with rfl | ⟨x, rfl, h1, h2, h3⟩
  · exact told.nil _ _ _ _
  · exact told.rel h1 h2 h3
theorem subQ_push {i j : Nat} {r n : Int} {A B : List Bnd} {o : List Snd} (h : told i r n A B o) : subQ j (pushQ i o) = if i = j then pushQ i o else [] := by
  split
  · next e => subst e; exact List.filter_eq_self.2 fun m hm => by simp [(h.ok m hm).2.2]
  · next e => exact List.filter_eq_nil_iff.2 fun m hm => by simp [(h.ok m hm).2.2, e]
theorem wtM_le (m : Mal) : wtM m ≤ 2 := by unfold wtM; split <;> omega
theorem wtQ_le (q : List Mal) : wtQ q ≤ 2 * q.length := by
  induction q with
  | nil => simp [wtQ]
  | cons m q ih => have := wtM_le m; simp [wtQ] at ih ⊢; omega
theorem AG.dl01 {t : Nat} {a b : Lst} {m : Mal} {q : List Mal} (h : AG t a b (m :: q)) (ht : t ≤ 20) (hf : m.fr = 0) (hto : m.to = 1) : ∃ o, handleF b (dlvE m) = ({ b with rm := apM 1 b.rm m }, o, 0) ∧ evOk [a, b] m.to (dlvE m) ∧ AG t (a) ({ b with rm := apM 1 b.rm m }) (q ++ pushQ 1 o) ∧ wtQ (q ++ pushQ 1 o) < wtQ (m :: q) := by
  obtain ⟨hm, _⟩ := h.mq m (List.mem_cons_self ..)
  have hn := h.n
  have hw : wtQ (m :: q) = wtM m + wtQ q := by simp [wtQ]
  rw [hw] at hn
  obtain ⟨o, k1, k2, k3⟩ := dl_step (s := b) (n := 1) hm (by rw [h.pb]; decide)
  have e : handleF b (dlvE m) = ({ b with rm := apM 1 b.rm m }, o, 0) := by rw [dlv_eq, hf]; exact k1
  have ht2 := rel_told k2 1 2
  have hl := apM_len 1 b.rm m
  have k4 := k3 1
  have e1 := h.ab
  have e2 := h.ba
  have s1 : subQ 0 (m :: q) = m :: subQ 0 q := by simp [subQ, hf]
  have s2 : subQ 1 (m :: q) = subQ 1 q := by simp [subQ, hf]
  rw [s1, List.foldl_cons] at e1
  rw [s2] at e2
  have hv : okV ({ b with rm := apM 1 b.rm m }) := by have := handle_okV h.vb (dlv_ok hm); rwa [e] at this
  have hq : ∀ m' ∈ q ++ pushQ 1 o, mlOk m' ∧ (m'.fr = 0 ∧ m'.to = 1 ∨ m'.fr = 1 ∧ m'.to = 0) := fun m' hm' => by
    rcases List.mem_append.1 hm' with hm' | hm'
    · exact h.mq m' (List.mem_cons_of_mem _ hm')
    · obtain ⟨p1, p2, p3⟩ := (ht2 []).ok m' hm'
      exact ⟨p1, .inr ⟨p3, p2⟩⟩
  have w1 : wtQ (q ++ pushQ 1 o) = wtQ q + wtQ (pushQ 1 o) := wtQ_app _ _
  refine ⟨o, e, ⟨by rw [hto]; simp, by rw [hto]; exact h.okb ht, dlv_ok hm, by rw [hto]; show (handleF b (dlvE m)).2.2 = 0; rw [e], fun z hz => ?_⟩, { h with vb := hv, n := ?_, mq := hq, ab := ?_, ba := ?_ }, by omega⟩
  · rw [hto] at hz
    change z ∈ (handleF b (dlvE m)).2.1 at hz
    rw [e] at hz
    have := (ht2 []).pe z hz
    rw [this]; simp
  · dsimp only; rw [w1]; omega
  · rw [subQ_app, subQ_push (ht2 []), if_neg (by omega), List.append_nil]; exact e1
  · rw [subQ_app, subQ_push (ht2 []), if_pos rfl, List.foldl_append]
    dsimp only
    rw [e2]; exact (ht2 _).ap
theorem AG.dl10 {t : Nat} {a b : Lst} {m : Mal} {q : List Mal} (h : AG t a b (m :: q)) (ht : t ≤ 20) (hf : m.fr = 1) (hto : m.to = 0) : ∃ o, handleF a (dlvE m) = ({ a with rm := apM 2 a.rm m }, o, 0) ∧ evOk [a, b] m.to (dlvE m) ∧ AG t ({ a with rm := apM 2 a.rm m }) (b) (q ++ pushQ 0 o) ∧ wtQ (q ++ pushQ 0 o) < wtQ (m :: q) := by
  obtain ⟨hm, _⟩ := h.mq m (List.mem_cons_self ..)
  have hn := h.n
  have hw : wtQ (m :: q) = wtM m + wtQ q := by simp [wtQ]
  rw [hw] at hn
  obtain ⟨o, k1, k2, k3⟩ := dl_step (s := a) (n := 2) hm (by rw [h.pa]; decide)
  have e : handleF a (dlvE m) = ({ a with rm := apM 2 a.rm m }, o, 0) := by rw [dlv_eq, hf]; exact k1
  have ht2 := rel_told k2 0 1
  have hl := apM_len 2 a.rm m
  have k4 := k3 0
  have e1 := h.ba
  have e2 := h.ab
  have s1 : subQ 1 (m :: q) = m :: subQ 1 q := by simp [subQ, hf]
  have s2 : subQ 0 (m :: q) = subQ 0 q := by simp [subQ, hf]
  rw [s1, List.foldl_cons] at e1
  rw [s2] at e2
  have hv : okV ({ a with rm := apM 2 a.rm m }) := by have := handle_okV h.va (dlv_ok hm); rwa [e] at this
  have hq : ∀ m' ∈ q ++ pushQ 0 o, mlOk m' ∧ (m'.fr = 0 ∧ m'.to = 1 ∨ m'.fr = 1 ∧ m'.to = 0) := fun m' hm' => by
    rcases List.mem_append.1 hm' with hm' | hm'
    · exact h.mq m' (List.mem_cons_of_mem _ hm')
    · obtain ⟨p1, p2, p3⟩ := (ht2 []).ok m' hm'
      exact ⟨p1, .inl ⟨p3, p2⟩⟩
  have w1 : wtQ (q ++ pushQ 0 o) = wtQ q + wtQ (pushQ 0 o) := wtQ_app _ _
  refine ⟨o, e, ⟨by rw [hto]; simp, by rw [hto]; exact h.oka ht, dlv_ok hm, by rw [hto]; show (handleF a (dlvE m)).2.2 = 0; rw [e], fun z hz => ?_⟩, { h with va := hv, n := ?_, mq := hq, ba := ?_, ab := ?_ }, by omega⟩
  · rw [hto] at hz
    change z ∈ (handleF a (dlvE m)).2.1 at hz
    rw [e] at hz
    have := (ht2 []).pe z hz
    rw [this]; simp
  · dsimp only; rw [w1]; omega
  · rw [subQ_app, subQ_push (ht2 []), if_pos rfl, List.foldl_append]
    dsimp only
    rw [e2]; exact (ht2 _).ap
  · rw [subQ_app, subQ_push (ht2 []), if_neg (by omega), List.append_nil]; exact e1
theorem AG.rt0 {t : Nat} {a b : Lst} {q : List Mal} (h : AG t a b q) (ht : t < 20) {l : List Fec} (hl : ∀ x ∈ l, okFe x) (h40 : l.length ≤ 40) (h0 : (handleF a ⟨4, 0, [], l⟩).2.2 = 0) : evOk [a, b] 0 ⟨4, 0, [], l⟩ ∧ AG (t + 1) ((handleF a ⟨4, 0, [], l⟩).1) (b) (q ++ pushQ 0 (handleF a ⟨4, 0, [], l⟩).2.1) ∧ q.length + (pushQ 0 (handleF a ⟨4, 0, [], l⟩).2.1).length ≤ 1000000 := by
  have he : okLe ⟨4, 0, [], l⟩ := ⟨by simp [inr], by simp, by simp, hl, by show l.length ≤ _; omega⟩
  have hv := handle_okV h.va he
  have hgr := handle_gr h.va ⟨4, 0, [], l⟩
  have hro := handle_ro h0
  have e : handleF a ⟨4, 0, [], l⟩ = routesF a l := by unfold handleF; dsimp only; rw [if_neg (by omega), if_neg (by omega), if_neg (by omega), if_pos rfl]
  have hE : routesE a.ro l = 0 := by
    rw [e] at h0; unfold routesF at h0
    split at h0
    · next k => exact absurd h0 k
    · next k => simpa using k
  obtain ⟨k1, k2, k3⟩ := routesE_ok hE
  have e2 : handleF a ⟨4, 0, [], l⟩ = ({ a with fr := (bindF a l (dropF a l)).1, lc := (bindF a l (dropF a l)).2.1, rt := l }, (bindF a l (dropF a l)).2.2, 0) := by rw [e]; unfold routesF; rw [if_neg (by simpa using hE)]
  have htd := told_routes (i := 0) h.va.v h.pa h.ga (l := l) fun x hx => ⟨(hl x hx).px, (k3 x hx).1⟩
  have hlen := routes_len h.va.v (l := l) k1
  have hvv := (routes_ok h.va.v l).1
  have hpx := routes_px h.va.v (l := l) (fun b hb => (h.ga b hb).px) (fun x hx => (hl x hx).px)
  have hva := routes_v h.va.v (l := l) (fun b hb => (h.ga b hb).v) (fun x hx => (k3 x hx).1)
  have hol : (bindF a l (dropF a l)).2.2.length ≤ 80 := by
    obtain ⟨_, _, p3⟩ := pdG_len a.ro a.ps l a.fr a.lc a.lc.length (Nat.le_refl _)
    obtain ⟨_, _, b3⟩ := bdG_len a.ro a.ps l (pdG a.ro a.ps l a.fr a.lc a.lc.length) l.length (Nat.le_refl _)
    rw [routes_eq h.va.v, h.pa] at b3
    rw [h.pa] at p3
    have := h.la
    simp only [List.length_singleton, Nat.mul_one] at p3 b3
    omega
  rw [h.ra] at htd
  generalize bindF a l (dropF a l) = d at *
  have hpl : (pushQ 0 d.2.2).length = d.2.2.length := by simp [pushQ]
  have hn := h.n
  have hql := wtQ_len q
  have hfa := h.fa
  have hla := h.la
  have hgf := hgr.fr
  rw [e2] at hv hgf ⊢
  dsimp only at hv hgf ⊢
  refine ⟨⟨by simp, h.oka (by omega), he, h0, fun z hz => ?_⟩, { h with va := hv, ga := fun c hc => ⟨hpx c hc, hva c hc, hvv.la c hc⟩, la := by dsimp only; omega, fa := by dsimp only; omega, fb := by have := h.fb; omega, n := ?_, mq := fun z hz => ?_, ab := ?_, ba := ?_ }, by rw [hpl]; omega⟩
  · change z ∈ (handleF a ⟨4, 0, [], l⟩).2.1 at hz
    rw [e2] at hz
    rw [htd.pe z hz]; simp
  · rw [wtQ_app]
    have := wtQ_le (pushQ 0 d.2.2)
    dsimp only; omega
  · rcases List.mem_append.1 hz with hz | hz
    · exact h.mq z hz
    · obtain ⟨p1, p2, p3⟩ := htd.ok z hz
      exact ⟨p1, .inl ⟨p3, p2⟩⟩
  · rw [subQ_app, subQ_push htd, if_pos rfl, List.foldl_append, h.ab]; exact htd.ap
  · rw [subQ_app, subQ_push htd, if_neg (by omega), List.append_nil]; exact h.ba
theorem AG.rt1 {t : Nat} {a b : Lst} {q : List Mal} (h : AG t a b q) (ht : t < 20) {l : List Fec} (hl : ∀ x ∈ l, okFe x) (h40 : l.length ≤ 40) (h0 : (handleF b ⟨4, 0, [], l⟩).2.2 = 0) : evOk [a, b] 1 ⟨4, 0, [], l⟩ ∧ AG (t + 1) (a) ((handleF b ⟨4, 0, [], l⟩).1) (q ++ pushQ 1 (handleF b ⟨4, 0, [], l⟩).2.1) ∧ q.length + (pushQ 1 (handleF b ⟨4, 0, [], l⟩).2.1).length ≤ 1000000 := by
  have he : okLe ⟨4, 0, [], l⟩ := ⟨by simp [inr], by simp, by simp, hl, by show l.length ≤ _; omega⟩
  have hv := handle_okV h.vb he
  have hgr := handle_gr h.vb ⟨4, 0, [], l⟩
  have hro := handle_ro h0
  have e : handleF b ⟨4, 0, [], l⟩ = routesF b l := by unfold handleF; dsimp only; rw [if_neg (by omega), if_neg (by omega), if_neg (by omega), if_pos rfl]
  have hE : routesE b.ro l = 0 := by
    rw [e] at h0; unfold routesF at h0
    split at h0
    · next k => exact absurd h0 k
    · next k => simpa using k
  obtain ⟨k1, k2, k3⟩ := routesE_ok hE
  have e2 : handleF b ⟨4, 0, [], l⟩ = ({ b with fr := (bindF b l (dropF b l)).1, lc := (bindF b l (dropF b l)).2.1, rt := l }, (bindF b l (dropF b l)).2.2, 0) := by rw [e]; unfold routesF; rw [if_neg (by simpa using hE)]
  have htd := told_routes (i := 1) h.vb.v h.pb h.gb (l := l) fun x hx => ⟨(hl x hx).px, (k3 x hx).1⟩
  have hlen := routes_len h.vb.v (l := l) k1
  have hvv := (routes_ok h.vb.v l).1
  have hpx := routes_px h.vb.v (l := l) (fun b hb => (h.gb b hb).px) (fun x hx => (hl x hx).px)
  have hva := routes_v h.vb.v (l := l) (fun b hb => (h.gb b hb).v) (fun x hx => (k3 x hx).1)
  have hol : (bindF b l (dropF b l)).2.2.length ≤ 80 := by
    obtain ⟨_, _, p3⟩ := pdG_len b.ro b.ps l b.fr b.lc b.lc.length (Nat.le_refl _)
    obtain ⟨_, _, b3⟩ := bdG_len b.ro b.ps l (pdG b.ro b.ps l b.fr b.lc b.lc.length) l.length (Nat.le_refl _)
    rw [routes_eq h.vb.v, h.pb] at b3
    rw [h.pb] at p3
    have := h.lb
    simp only [List.length_singleton, Nat.mul_one] at p3 b3
    omega
  rw [h.rb] at htd
  generalize bindF b l (dropF b l) = d at *
  have hpl : (pushQ 1 d.2.2).length = d.2.2.length := by simp [pushQ]
  have hn := h.n
  have hql := wtQ_len q
  have hfa := h.fb
  have hla := h.lb
  have hgf := hgr.fr
  rw [e2] at hv hgf ⊢
  dsimp only at hv hgf ⊢
  refine ⟨⟨by simp, h.okb (by omega), he, h0, fun z hz => ?_⟩, { h with vb := hv, gb := fun c hc => ⟨hpx c hc, hva c hc, hvv.la c hc⟩, lb := by dsimp only; omega, fb := by dsimp only; omega, fa := by have := h.fa; omega, n := ?_, mq := fun z hz => ?_, ba := ?_, ab := ?_ }, by rw [hpl]; omega⟩
  · change z ∈ (handleF b ⟨4, 0, [], l⟩).2.1 at hz
    rw [e2] at hz
    rw [htd.pe z hz]; simp
  · rw [wtQ_app]
    have := wtQ_le (pushQ 1 d.2.2)
    dsimp only; omega
  · rcases List.mem_append.1 hz with hz | hz
    · exact h.mq z hz
    · obtain ⟨p1, p2, p3⟩ := htd.ok z hz
      exact ⟨p1, .inr ⟨p3, p2⟩⟩
  · rw [subQ_app, subQ_push htd, if_neg (by omega), List.append_nil]; exact h.ab
  · rw [subQ_app, subQ_push htd, if_pos rfl, List.foldl_append, h.ba]; exact htd.ap
/-- all messages arrive -/
theorem AG.dlv {t : Nat} {a b : Lst} {q : List Mal} (h : AG t a b q) (ht : t ≤ 20) : okQ 20001 [a, b] q ∧ ∃ a' b', runQ 20001 [a, b] q = [a', b'] ∧ AG t a' b' [] := by
  obtain ⟨k1, a', b', k2, k3⟩ := okQ_of (fun ss q => ∃ a b, ss = [a, b] ∧ AG t a b q) (fun _ q => wtQ q) (fun ss m q ⟨a, b, e, hJ⟩ => by
    subst e
    have hnn := hJ.n
    have hql := wtQ_len q
    have hw : wtQ (m :: q) = wtM m + wtQ q := by simp [wtQ]
    rcases (hJ.mq m (List.mem_cons_self ..)).2 with ⟨h1, h2⟩ | ⟨h1, h2⟩
    · obtain ⟨o, k1, k2, k3, k4⟩ := hJ.dl01 ht h1 h2
      have e1 : setS [a, b] m.to (dlvE m) = [a, { b with rm := apM 1 b.rm m }] := by unfold setS; rw [h2]; show [a, (handleF b (dlvE m)).1] = _; rw [k1]
      have e2 : outS [a, b] m.to (dlvE m) = pushQ 1 o := by unfold outS; rw [h2]; show pushQ 1 (handleF b (dlvE m)).2.1 = _; rw [k1]
      have hl2 := wtQ_len (q ++ pushQ 1 o)
      rw [e1, e2]
      rw [List.length_append] at hl2
      exact ⟨⟨k2, by omega, by rw [e2]; omega⟩, ⟨_, _, rfl, k3⟩, k4⟩
    · obtain ⟨o, k1, k2, k3, k4⟩ := hJ.dl10 ht h1 h2
      have e1 : setS [a, b] m.to (dlvE m) = [{ a with rm := apM 2 a.rm m }, b] := by unfold setS; rw [h2]; show [(handleF a (dlvE m)).1, b] = _; rw [k1]
      have e2 : outS [a, b] m.to (dlvE m) = pushQ 0 o := by unfold outS; rw [h2]; show pushQ 0 (handleF a (dlvE m)).2.1 = _; rw [k1]
      have hl2 := wtQ_len (q ++ pushQ 0 o)
      rw [e1, e2]
      rw [List.length_append] at hl2
      exact ⟨⟨k2, by omega, by rw [e2]; omega⟩, ⟨_, _, rfl, k3⟩, k4⟩) 20001 [a, b] q ⟨a, b, rfl, h⟩ (by have := h.n; omega)
  exact ⟨k1, a', b', k2, k3⟩
theorem AG.done {t : Nat} {a b : Lst} (h : AG t a b []) : b.rm = a.lc ∧ a.rm = b.lc := ⟨h.ab, h.ba⟩
/-! the beginning -/
abbrev agA : Lst := ⟨1, [⟨16, 90⟩], [], [], [2], []⟩
abbrev agB : Lst := ⟨2, [⟨116, 190⟩], [], [], [1], []⟩
abbrev agEa : Lev := ⟨1, 2, [], []⟩
abbrev agEb : Lev := ⟨1, 1, [], []⟩
theorem ag1 : handleF (initS 0) agEa = (agA, [], 0) := by decide +kernel
theorem ag2 : handleF (initS 1) agEb = (agB, [], 0) := by decide +kernel
theorem init_okV (i : Nat) (h : i ≤ 100) : okV (initS i) := by
  have hv : vG [⟨16 + 100 * (i : Int), 90 + 100 * i⟩] := ⟨fun r hr => by simp at hr; subst hr; exact ⟨by dsimp only; omega, by dsimp only; omega, by dsimp only; omega⟩, List.pairwise_singleton ..⟩
  exact ⟨vD.nil hv, List.Pairwise.nil, by simp [initS], by simp [initS], List.Pairwise.nil, by simp [initS]⟩
theorem init_okLs (i : Nat) (h : i ≤ 100) : okLs (initS i) := (init_okV i h).all (by simp [initS]) (by simp [initS]) (by simp [initS]) (by simp [initS])
theorem agEa_ok : okLe agEa := ⟨by simp [inr], by simp, by simp, by simp, by simp⟩
theorem agEb_ok : okLe agEb := ⟨by simp [inr], by simp, by simp, by simp, by simp⟩
theorem ag_e1 : evOk (initN 2) 0 agEa := ⟨by simp [initN], init_okLs 0 (by omega), agEa_ok, by show (handleF (initS 0) agEa).2.2 = 0; rw [ag1], fun m hm => by
  change m ∈ (handleF (initS 0) agEa).2.1 at hm
  rw [ag1] at hm; cases hm⟩
theorem ag_s1 : setS (initN 2) 0 agEa = [agA, initS 1] ∧ outS (initN 2) 0 agEa = [] := by
  constructor
  · show [(handleF (initS 0) agEa).1, initS 1] = _; rw [ag1]
  · show pushQ 0 (handleF (initS 0) agEa).2.1 = _; rw [ag1]; rfl
theorem ag_e2 : evOk [agA, initS 1] 1 agEb := ⟨by simp, init_okLs 1 (by omega), agEb_ok, by show (handleF (initS 1) agEb).2.2 = 0; rw [ag2], fun m hm => by
  change m ∈ (handleF (initS 1) agEb).2.1 at hm
  rw [ag2] at hm; cases hm⟩
theorem ag_s2 : setS [agA, initS 1] 1 agEb = [agA, agB] ∧ outS [agA, initS 1] 1 agEb = [] := by
  constructor
  · show [agA, (handleF (initS 1) agEb).1] = _; rw [ag2]
  · show pushQ 1 (handleF (initS 1) agEb).2.1 = _; rw [ag2]; rfl
theorem ag0 : AG 0 agA agB [] := by
  have h1 : okV agA := by have := handle_okV (init_okV 0 (by omega)) agEa_ok; rwa [ag1] at this
  have h2 : okV agB := by have := handle_okV (init_okV 1 (by omega)) agEb_ok; rwa [ag2] at this
  exact ⟨h1, h2, rfl, rfl, rfl, rfl, by simp, by simp, by simp, by simp, by simp, by simp, by simp [wtQ], by simp, rfl, rfl⟩
structure Trn where
  sc : Bool
  rt : List Fec
  dl : Bool
def encTr' (t : Trn) : List FV := [Bf t.sc, VFe t.rt, Bf t.dl]
abbrev VTr (l : List Trn) : FV := .vals 3 (l.map encTr')
structure okTr (t : Trn) : Prop where
  rt : ∀ x ∈ t.rt, okFe x
  n : t.rt.length ≤ 9223372036854775807
end Go.Pl
namespace Go.Proofs.Ytkofbemgpeagbaa
open Go Go.RT Go.Proofs Go.Pl
set_option linter.all false
set_option maxRecDepth 20000
set_option maxHeartbeats 4000000
theorem agree_law (l : List Trn) (hl : ∀ x ∈ l, okTr x) (hn : l.length ≤ 9223372036854775807) : Pure Try.prog 6 [VTr l] (Bf true) := by
  have ks := start_m 2 (by omega)
  have k1 := event_ok (initN 2) [] 0 agEa ag_e1 (by simp [initN]) (by rw [ag_s1.2]; simp)
  rw [ag_s1.1, ag_s1.2, List.append_nil] at k1
  have k2 := event_ok [agA, initS 1] [] 1 agEb ag_e2 (by simp) (by rw [ag_s2.2]; simp)
  rw [ag_s2.1, ag_s2.2, List.append_nil] at k2
  refine Meets.intro Try.func6 rfl (Nat.le_of_ble_eq_true rfl) fun C hC => ?_
  simp only [List.map, argEnv, Nat.reduceAdd]
  refine nK ?_
  refine s_reg rfl ?_
  refine Run.pure (dd := some 2) rfl rfl (op_assign rfl (Opd.const _)) ?_
  refine Run.nil (FinR.mk ?_)
  refine nK ?_
  refine s_reg rfl ?_
  refine Run.pure (dd := some 8) rfl rfl (op_move rfl (Opd.tmp _ _ rfl)) ?_
  refine Run.pure (dd := some 9) rfl rfl (op_len_fz rfl (by first | exact Opd.tmp _ _ rfl | exact Opd.nil _ _ (Opd.tmp _ _ rfl)) (by first | exact List.length_map _ | rfl)) ?_
  refine Run.pure (dd := some 10) rfl rfl (op_gtr rfl (Opd.tmp _ _ rfl) (Opd.const _)) ?_
  refine Run.nil (FinR.mk ?_)
  refine nK ?_
  refine n_cond _ rfl (fun hb => ?_) (fun hb => ?_)
  · refine nK ?_
    refine s_reg rfl ?_
    refine Run.pure (dd := some 11) rfl rfl (op_call_pure (fun _ => awake_c) rfl (Opd.func _) Opds.nil) ?_
    refine Run.pure (dd := some 2) rfl rfl (op_assign rfl (Opd.tmp _ _ rfl)) ?_
    refine Run.nil (FinR.mk ?_)
    refine nK ?_
    (first | exact s_o1 hC rfl tV | exact s_o2 hC rfl tV tV | exact s_o3 hC rfl tV tV tV | exact s_o4 hC rfl tV tV tV tV | exact s_out0 hC rfl | exact s_outO hC rfl rfl rfl)
  · have h20 : l.length ≤ 20 := by simp at hb; omega
    refine nK ?_
    refine s_reg rfl ?_
    refine Run.eff (dd := some 13) rfl rfl (op_call (n := 0) (n' := 1) [] (fun _ => ks) rfl (Opd.func _) (Opds.cons _ _ _ _ (Opd.const _) Opds.nil) rfl rfl (Lent.nil _) rfl rfl rfl rfl rfl) ?_
    refine Run.pure (dd := some 12) rfl rfl (op_move rfl (Opd.tmp _ _ rfl)) ?_
    refine Run.pure (dd := some 14) rfl rfl (op_extract rfl (Opd.tmp _ _ rfl) rfl) ?_
    refine Run.pure (dd := some 15) rfl rfl (op_extract rfl (Opd.tmp _ _ rfl) rfl) ?_
    refine Run.pure (dd := some 3) rfl rfl (op_assign rfl (Opd.tmp _ _ rfl)) ?_
    refine Run.pure (dd := some 4) rfl rfl (op_assign rfl (Opd.tmp _ _ rfl)) ?_
    refine Run.nil (FinR.mk ?_)
    refine nK ?_
    refine s_reg rfl ?_
    refine Run.pure (dd := some 16) rfl rfl (op_move rfl (Opd.tmp _ _ rfl)) ?_
    refine Run.pure (dd := some 17) rfl rfl (op_not rfl (Opd.tmp _ _ rfl)) ?_
    refine Run.pure (dd := some 18) rfl rfl (op_move rfl (Opd.tmp _ _ rfl)) ?_
    refine Run.pureG (dd := some 19) rfl rfl rfl tG (op_move rfl (Opd.tmp _ _ rfl)) ?_
    refine Run.pureG (dd := some 20) rfl rfl rfl tG (op_buildZ (encEv ⟨0, 0, [], []⟩) rfl rfl (by exact zkEv) (FillF.cons _ _ _ _ _ _ _ _ _ _ (by rfl) (Opd.const _) tC (by rfl) tR (FillF.cons _ _ _ _ _ _ _ _ _ _ (by rfl) (Opd.const _) tC (by rfl) tR (FillF.nil _)))) ?_
    refine Run.effG (dd := some 21) rfl rfl rfl tG tGt (op_call (n := 1) (n' := 1) [0] (fun _ => k1) rfl (Opd.func _) (Opds.cons _ _ _ _ (Opd.topt _ _ _ rfl tO) (Opds.cons _ _ _ _ (Opd.const _) (Opds.cons _ _ _ _ (Opd.topt _ _ _ rfl tO) Opds.nil))) rfl rfl (Lent.of rfl rfl (by repeat (first | exact trivial | refine ⟨⟨rfl, rfl, rfl, tL⟩, ?_⟩)) rfl) rfl rfl rfl rfl rfl) ?_
    refine Run.pureG (dd := some 22) rfl rfl rfl tG (op_not rfl (Opd.topt _ _ _ rfl tO)) ?_
    refine Run.pure (dd := some 23) rfl rfl (op_pick_or rfl (Opd.tmp _ _ rfl) (Opd.topt _ _ _ rfl tO)) ?_
    refine Run.pure (dd := some 24) rfl rfl (op_move rfl (Opd.tmp _ _ rfl)) ?_
    refine Run.pureG (dd := some 25) rfl rfl rfl tG (op_move rfl (Opd.tmp _ _ rfl)) ?_
    refine Run.pureG (dd := some 26) rfl rfl rfl tG (op_buildZ (encEv ⟨0, 0, [], []⟩) rfl rfl (by exact zkEv) (FillF.cons _ _ _ _ _ _ _ _ _ _ (by rfl) (Opd.const _) tC (by rfl) tR (FillF.cons _ _ _ _ _ _ _ _ _ _ (by rfl) (Opd.const _) tC (by rfl) tR (FillF.nil _)))) ?_
    refine Run.effG (dd := some 27) rfl rfl rfl tG tGt (op_call (n := 1) (n' := 1) [0] (fun _ => k2) rfl (Opd.func _) (Opds.cons _ _ _ _ (Opd.topt _ _ _ rfl tO) (Opds.cons _ _ _ _ (Opd.const _) (Opds.cons _ _ _ _ (Opd.topt _ _ _ rfl tO) Opds.nil))) rfl rfl (Lent.of rfl rfl (by repeat (first | exact trivial | refine ⟨⟨rfl, rfl, rfl, tL⟩, ?_⟩)) rfl) rfl rfl rfl rfl rfl) ?_
    refine Run.pureG (dd := some 28) rfl rfl rfl tG (op_not rfl (Opd.topt _ _ _ rfl tO)) ?_
    refine Run.pure (dd := some 29) rfl rfl (op_pick_or rfl (Opd.tmp _ _ rfl) (Opd.topt _ _ _ rfl tO)) ?_
    refine Run.nil (FinR.mk ?_)
    refine nK ?_
    refine nK ?_
    refine n_cond _ rfl (fun hb => ?_) (fun hb => ?_)
    · simp at hb
    · refine nK ?_
      refine s_reg rfl ?_
      refine Run.pure (dd := some 30) rfl rfl (op_move rfl (Opd.tmp _ _ rfl)) ?_
      refine Run.pure (dd := some 31) rfl rfl (op_len_fz rfl (by first | exact Opd.tmp _ _ rfl | exact Opd.nil _ _ (Opd.tmp _ _ rfl)) (by first | exact List.length_map _ | rfl)) ?_
      refine Run.pure (dd := some 32) rfl rfl (op_move rfl (Opd.const _)) ?_
      refine Run.nil (FinR.mk ?_)
      refine nK ?_
      refine n_loop (ι := Nat × Lst × Lst × List Mal) (fun g => ([(3, .ptr 0 2 0 0), (30, .fz (VTr l)), (31, IV .i64 l.length), (32, IV .i64 g.1)], [(0, ONet [g.2.1, g.2.2.1] g.2.2.2)], 1)) (fun g => g.1 ≤ l.length ∧ AG g.1 g.2.1 g.2.2.1 g.2.2.2) (fun g => l.length - g.1) (0, agA, agB, []) ⟨Nat.zero_le _, ag0⟩ ?_ ?_
      · refine Next.weakS [3] [] (by rfl) (by first | exact keeps0 hC _ | exact keepsN hC _ rfl) (by repeat (first | exact trivial | refine ⟨⟨_, rfl, .inl ⟨rfl, rfl⟩⟩, ?_⟩ | refine ⟨⟨_, rfl, .inl ⟨slEq rfl tN, rfl⟩⟩, ?_⟩ | refine ⟨⟨_, rfl, .inl ⟨ivEq tX, rfl⟩⟩, ?_⟩)) (by repeat (first | exact trivial | refine ⟨ent_same rfl rfl rfl tL, ?_⟩ | refine ⟨ent_same rfl rfl (rfEq rfl tU) tL, ?_⟩ | refine ⟨ent_same rfl rfl (flEq rfl (by first | (simp; done) | (simp; omega) | (simp [encP, encW, encY, encMs, encBn, encSn, encFe, encLh, encLe, encRg, encEv, encLs, encMl]; done) | simp [maxC, minC])) trivial, ?_⟩)) rfl (rel_intro)
      · intro ⟨i, a, b, q⟩ ⟨hi, hI⟩ K hK
        dsimp only at hi hI ⊢
        refine nK ?_
        refine s_reg rfl ?_
        refine Run.pure (dd := some 33) rfl rfl (op_lss rfl (Opd.tmp _ _ rfl) (Opd.tmp _ _ rfl)) ?_
        refine Run.nil (FinR.mk ?_)
        refine nK ?_
        refine n_cond _ rfl (fun hb => ?_) (fun hb => ?_)
        · have hlt : i < l.length := by simp at hb; omega
          have hr1 := row_at' encTr' l i hlt
          have hx := hl _ (List.getElem_mem hlt)
          have hK1 := fun a b q h => hK (i + 1, a, b, q) ⟨by dsimp only; omega, h⟩ (by dsimp only; omega)
          dsimp only at hK1
          generalize l[i] = x at *
          obtain ⟨sc, rt, dl⟩ := x
          obtain ⟨hx1, hx2⟩ := hx
          dsimp only at hx1 hx2
          refine nK ?_
          refine s_reg rfl ?_
          refine Run.pure (dd := some 34) rfl rfl (op_idx_fz _ rfl (Opd.tmp _ _ rfl) (Opd.tmp _ _ rfl) tF) ?_
          refine Run.pure (dd := some 35) rfl rfl (op_loadw_fz rfl (Opd.tmp _ _ rfl) rfl) ?_
          refine Run.eff (dd := some 6) rfl rfl (op_alloc rfl rfl rfl rfl) ?_
          refine Run.eff (dd := none) rfl rfl (op_store_flat rfl (Opd.tmp _ _ rfl) (Opd.tmp _ _ rfl) tC rfl rfl (by first | rfl | assumption) tS) ?_
          refine Run.nil (FinR.mk ?_)
          refine nK ?_
          refine s_reg rfl ?_
          refine Run.pure (dd := some 36) rfl rfl (op_fld_ptr (by decide) rfl (Opd.tmp _ _ rfl)) ?_
          refine Run.load (dd := some 37) rfl rfl (op_load1_flat rfl (Opd.tmp _ _ rfl) tH rfl) ?_
          refine Run.pure (dd := some 38) rfl rfl (op_len_fz rfl (by first | exact Opd.tmp _ _ rfl | exact Opd.nil _ _ (Opd.tmp _ _ rfl)) (by first | exact List.length_map _ | rfl)) ?_
          refine Run.pure (dd := some 39) rfl rfl (op_gtr rfl (Opd.tmp _ _ rfl) (Opd.const _)) ?_
          refine Run.nil (FinR.mk ?_)
          refine nK ?_
          refine n_cond _ rfl (fun hb => ?_) (fun hb => ?_)
          · refine nK ?_
            refine s_reg rfl ?_
            refine Run.pure (dd := some 40) rfl rfl (op_call_pure (fun _ => awake_c) rfl (Opd.func _) Opds.nil) ?_
            refine Run.pure (dd := some 2) rfl rfl (op_assign rfl (Opd.tmp _ _ rfl)) ?_
            refine Run.nil (FinR.mk ?_)
            refine nK ?_
            (first | exact s_o1 hC rfl tV | exact s_o2 hC rfl tV tV | exact s_o3 hC rfl tV tV tV | exact s_o4 hC rfl tV tV tV tV | exact s_out0 hC rfl | exact s_outO hC rfl rfl rfl)
          · have h40 : rt.length ≤ 40 := by simp at hb; omega
            have hea : okLe ⟨4, 0, [], rt⟩ := ⟨by simp [inr], by simp, by simp, hx1, by show rt.length ≤ _; omega⟩
            clear hK
            refine nK ?_
            refine s_reg rfl ?_
            refine Run.pure (dd := some 7) rfl rfl (op_assign rfl (Opd.const _)) ?_
            refine Run.nil (FinR.mk ?_)
            refine nK ?_
            refine s_reg rfl ?_
            refine Run.pure (dd := some 41) rfl rfl (op_fld_ptr (by decide) rfl (Opd.tmp _ _ rfl)) ?_
            refine Run.load (dd := some 42) rfl rfl (op_load1_flat rfl (Opd.tmp _ _ rfl) tH rfl) ?_
            refine Run.nil (FinR.mk ?_)
            refine nK ?_
            refine n_cond _ rfl (fun hb => ?_) (fun hb => ?_)
            · skip
              by_cases h0 : (handleF b ⟨4, 0, [], rt⟩).2.2 = 0
              · obtain ⟨v1, v2, v3⟩ := hI.rt1 (by omega) hx1 h40 h0
                have ke := event_ok [a, b] q 1 ⟨4, 0, [], rt⟩ v1 (by simp) v3
                rw [show setS [a, b] 1 ⟨4, 0, [], rt⟩ = [a, (handleF b ⟨4, 0, [], rt⟩).1] from rfl, show outS [a, b] 1 ⟨4, 0, [], rt⟩ = pushQ 1 (handleF b ⟨4, 0, [], rt⟩).2.1 from rfl] at ke
                refine nK ?_
                refine s_reg rfl ?_
                refine Run.pure (dd := some 7) rfl rfl (op_assign rfl (Opd.const _)) ?_
                refine Run.nil (FinR.mk ?_)
                refine nK ?_
                refine s_reg rfl ?_
                refine Run.pure (dd := some 43) rfl rfl (op_move rfl (Opd.tmp _ _ rfl)) ?_
                refine Run.pure (dd := some 44) rfl rfl (op_move rfl (Opd.tmp _ _ rfl)) ?_
                refine Run.pure (dd := some 45) rfl rfl (op_fld_ptr (by decide) rfl (Opd.tmp _ _ rfl)) ?_
                refine Run.load (dd := some 46) rfl rfl (op_load1_flat rfl (Opd.tmp _ _ rfl) tH rfl) ?_
                refine Run.pure (dd := some 47) rfl rfl (op_buildZ (encEv ⟨0, 0, [], []⟩) rfl rfl (by exact zkEv) (FillF.cons _ _ _ _ _ _ _ _ _ _ (by rfl) (Opd.const _) tC (by rfl) tR (FillF.cons _ _ _ _ _ _ _ _ _ _ (by rfl) (Opd.tmp _ _ rfl) tC (by rfl) tR (FillF.nil _)))) ?_
                refine Run.eff (dd := some 48) rfl rfl (op_call (n := 1) (n' := 1) [0] (fun _ => ke) rfl (Opd.func _) (Opds.cons _ _ _ _ (Opd.tmp _ _ rfl) (Opds.cons _ _ _ _ (Opd.tmp _ _ rfl) (Opds.cons _ _ _ _ (Opd.tmp _ _ rfl) Opds.nil))) rfl rfl (Lent.of rfl rfl (by repeat (first | exact trivial | refine ⟨⟨rfl, rfl, rfl, tL⟩, ?_⟩)) rfl) rfl rfl rfl rfl rfl) ?_
                refine Run.nil (FinR.mk ?_)
                refine nK ?_
                cases dl
                · refine nK ?_
                  refine s_reg rfl ?_
                  refine Run.pure (dd := some 49) rfl rfl (op_fld_ptr (by decide) rfl (Opd.tmp _ _ rfl)) ?_
                  refine Run.load (dd := some 50) rfl rfl (op_load1_flat rfl (Opd.tmp _ _ rfl) tH rfl) ?_
                  refine Run.pure (dd := some 51) rfl rfl (op_move rfl (Opd.tmp _ _ rfl)) ?_
                  refine Run.pureG (dd := some 52) rfl rfl rfl tG (op_move rfl (Opd.tmp _ _ rfl)) ?_
                  refine Run.pureG (dd := some 53) rfl rfl rfl tG (op_never (g := (false == true)) (p := BV true) rfl) ?_
                  refine Run.pureG (dd := some 54) rfl rfl rfl tG (op_not rfl (Opd.topt _ _ _ rfl tO)) ?_
                  refine Run.pure (dd := some 55) rfl rfl (op_pick_and rfl (Opd.tmp _ _ rfl) (Opd.topt _ _ _ rfl tO)) ?_
                  refine Run.nil (FinR.mk ?_)
                  refine nK ?_
                  refine n_cond _ rfl (fun hb => ?_) (fun hb => ?_)
                  · simp at hb
                  · refine nK ?_
                    refine s_reg rfl ?_
                    refine Run.pure (dd := some 56) rfl rfl (op_add rfl (Opd.tmp _ _ rfl) (Opd.const _) tI) ?_
                    refine Run.pure (dd := some 32) rfl rfl (op_move rfl (Opd.tmp _ _ rfl)) ?_
                    refine Run.nil (FinR.mk ?_)
                    refine nK ?_
                    refine Next.weakS [3] [] (by rfl) (by first | exact keeps0 hC _ | exact keepsN hC _ rfl) (by repeat (first | exact trivial | refine ⟨⟨_, rfl, .inl ⟨rfl, rfl⟩⟩, ?_⟩ | refine ⟨⟨_, rfl, .inl ⟨slEq rfl tN, rfl⟩⟩, ?_⟩ | refine ⟨⟨_, rfl, .inl ⟨ivEq tX, rfl⟩⟩, ?_⟩)) (by repeat (first | exact trivial | refine ⟨ent_same rfl rfl rfl tL, ?_⟩ | refine ⟨ent_same rfl rfl (rfEq rfl tU) tL, ?_⟩ | refine ⟨ent_same rfl rfl (flEq rfl (by first | (simp; done) | (simp; omega) | (simp [encP, encW, encY, encMs, encBn, encSn, encFe, encLh, encLe, encRg, encEv, encLs, encMl]; done) | simp [maxC, minC])) trivial, ?_⟩)) rfl ((hK1 _ _ _ v2))
                · obtain ⟨d1, a', b', d2, d3⟩ := v2.dlv (by omega)
                  have kd := deliver_m 20001 (by omega) [a, (handleF b ⟨4, 0, [], rt⟩).1] (q ++ pushQ 1 (handleF b ⟨4, 0, [], rt⟩).2.1) d1 (by simp) (by have := (v2).n; have := wtQ_len ((q ++ pushQ 1 (handleF b ⟨4, 0, [], rt⟩).2.1)); omega)
                  rw [d2] at kd
                  refine nK ?_
                  refine s_reg rfl ?_
                  refine Run.pure (dd := some 49) rfl rfl (op_fld_ptr (by decide) rfl (Opd.tmp _ _ rfl)) ?_
                  refine Run.load (dd := some 50) rfl rfl (op_load1_flat rfl (Opd.tmp _ _ rfl) tH rfl) ?_
                  refine Run.pure (dd := some 51) rfl rfl (op_move rfl (Opd.tmp _ _ rfl)) ?_
                  refine Run.pureG (dd := some 52) rfl rfl rfl tG (op_move rfl (Opd.tmp _ _ rfl)) ?_
                  refine Run.effG (dd := some 53) rfl rfl rfl tG tGt (op_call (n := 1) (n' := 1) [0] (fun _ => kd) rfl (Opd.func _) (Opds.cons _ _ _ _ (Opd.topt _ _ _ rfl tO) Opds.nil) rfl rfl (Lent.of rfl rfl (by repeat (first | exact trivial | refine ⟨⟨rfl, rfl, rfl, tL⟩, ?_⟩)) rfl) rfl rfl rfl rfl rfl) ?_
                  refine Run.pureG (dd := some 54) rfl rfl rfl tG (op_not rfl (Opd.topt _ _ _ rfl tO)) ?_
                  refine Run.pure (dd := some 55) rfl rfl (op_pick_and rfl (Opd.tmp _ _ rfl) (Opd.topt _ _ _ rfl tO)) ?_
                  refine Run.nil (FinR.mk ?_)
                  refine nK ?_
                  refine n_cond _ rfl (fun hb => ?_) (fun hb => ?_)
                  · simp at hb
                  · refine nK ?_
                    refine s_reg rfl ?_
                    refine Run.pure (dd := some 56) rfl rfl (op_add rfl (Opd.tmp _ _ rfl) (Opd.const _) tI) ?_
                    refine Run.pure (dd := some 32) rfl rfl (op_move rfl (Opd.tmp _ _ rfl)) ?_
                    refine Run.nil (FinR.mk ?_)
                    refine nK ?_
                    refine Next.weakS [3] [] (by rfl) (by first | exact keeps0 hC _ | exact keepsN hC _ rfl) (by repeat (first | exact trivial | refine ⟨⟨_, rfl, .inl ⟨rfl, rfl⟩⟩, ?_⟩ | refine ⟨⟨_, rfl, .inl ⟨slEq rfl tN, rfl⟩⟩, ?_⟩ | refine ⟨⟨_, rfl, .inl ⟨ivEq tX, rfl⟩⟩, ?_⟩)) (by repeat (first | exact trivial | refine ⟨ent_same rfl rfl rfl tL, ?_⟩ | refine ⟨ent_same rfl rfl (rfEq rfl tU) tL, ?_⟩ | refine ⟨ent_same rfl rfl (flEq rfl (by first | (simp; done) | (simp; omega) | (simp [encP, encW, encY, encMs, encBn, encSn, encFe, encLh, encLe, encRg, encEv, encLs, encMl]; done) | simp [maxC, minC])) trivial, ?_⟩)) rfl ((hK1 _ _ _ d3))
              · have v2 := hI.mono
                have ke := event_bad [a, b] q 1 ⟨4, 0, [], rt⟩ (by simp) (hI.okb (by omega)) hea h0 (by simp)
                refine nK ?_
                refine s_reg rfl ?_
                refine Run.pure (dd := some 7) rfl rfl (op_assign rfl (Opd.const _)) ?_
                refine Run.nil (FinR.mk ?_)
                refine nK ?_
                refine s_reg rfl ?_
                refine Run.pure (dd := some 43) rfl rfl (op_move rfl (Opd.tmp _ _ rfl)) ?_
                refine Run.pure (dd := some 44) rfl rfl (op_move rfl (Opd.tmp _ _ rfl)) ?_
                refine Run.pure (dd := some 45) rfl rfl (op_fld_ptr (by decide) rfl (Opd.tmp _ _ rfl)) ?_
                refine Run.load (dd := some 46) rfl rfl (op_load1_flat rfl (Opd.tmp _ _ rfl) tH rfl) ?_
                refine Run.pure (dd := some 47) rfl rfl (op_buildZ (encEv ⟨0, 0, [], []⟩) rfl rfl (by exact zkEv) (FillF.cons _ _ _ _ _ _ _ _ _ _ (by rfl) (Opd.const _) tC (by rfl) tR (FillF.cons _ _ _ _ _ _ _ _ _ _ (by rfl) (Opd.tmp _ _ rfl) tC (by rfl) tR (FillF.nil _)))) ?_
                refine Run.eff (dd := some 48) rfl rfl (op_call (n := 1) (n' := 1) [0] (fun _ => ke) rfl (Opd.func _) (Opds.cons _ _ _ _ (Opd.tmp _ _ rfl) (Opds.cons _ _ _ _ (Opd.tmp _ _ rfl) (Opds.cons _ _ _ _ (Opd.tmp _ _ rfl) Opds.nil))) rfl rfl (Lent.of rfl rfl (by repeat (first | exact trivial | refine ⟨⟨rfl, rfl, rfl, tL⟩, ?_⟩)) rfl) rfl rfl rfl rfl rfl) ?_
                refine Run.nil (FinR.mk ?_)
                refine nK ?_
                cases dl
                · refine nK ?_
                  refine s_reg rfl ?_
                  refine Run.pure (dd := some 49) rfl rfl (op_fld_ptr (by decide) rfl (Opd.tmp _ _ rfl)) ?_
                  refine Run.load (dd := some 50) rfl rfl (op_load1_flat rfl (Opd.tmp _ _ rfl) tH rfl) ?_
                  refine Run.pure (dd := some 51) rfl rfl (op_move rfl (Opd.tmp _ _ rfl)) ?_
                  refine Run.pureG (dd := some 52) rfl rfl rfl tG (op_move rfl (Opd.tmp _ _ rfl)) ?_
                  refine Run.pureG (dd := some 53) rfl rfl rfl tG (op_never (g := (false == true)) (p := BV true) rfl) ?_
                  refine Run.pureG (dd := some 54) rfl rfl rfl tG (op_not rfl (Opd.topt _ _ _ rfl tO)) ?_
                  refine Run.pure (dd := some 55) rfl rfl (op_pick_and rfl (Opd.tmp _ _ rfl) (Opd.topt _ _ _ rfl tO)) ?_
                  refine Run.nil (FinR.mk ?_)
                  refine nK ?_
                  refine n_cond _ rfl (fun hb => ?_) (fun hb => ?_)
                  · simp at hb
                  · refine nK ?_
                    refine s_reg rfl ?_
                    refine Run.pure (dd := some 56) rfl rfl (op_add rfl (Opd.tmp _ _ rfl) (Opd.const _) tI) ?_
                    refine Run.pure (dd := some 32) rfl rfl (op_move rfl (Opd.tmp _ _ rfl)) ?_
                    refine Run.nil (FinR.mk ?_)
                    refine nK ?_
                    refine Next.weakS [3] [] (by rfl) (by first | exact keeps0 hC _ | exact keepsN hC _ rfl) (by repeat (first | exact trivial | refine ⟨⟨_, rfl, .inl ⟨rfl, rfl⟩⟩, ?_⟩ | refine ⟨⟨_, rfl, .inl ⟨slEq rfl tN, rfl⟩⟩, ?_⟩ | refine ⟨⟨_, rfl, .inl ⟨ivEq tX, rfl⟩⟩, ?_⟩)) (by repeat (first | exact trivial | refine ⟨ent_same rfl rfl rfl tL, ?_⟩ | refine ⟨ent_same rfl rfl (rfEq rfl tU) tL, ?_⟩ | refine ⟨ent_same rfl rfl (flEq rfl (by first | (simp; done) | (simp; omega) | (simp [encP, encW, encY, encMs, encBn, encSn, encFe, encLh, encLe, encRg, encEv, encLs, encMl]; done) | simp [maxC, minC])) trivial, ?_⟩)) rfl ((hK1 _ _ _ v2))
                · obtain ⟨d1, a', b', d2, d3⟩ := v2.dlv (by omega)
                  have kd := deliver_m 20001 (by omega) [a, b] q d1 (by simp) (by have := (v2).n; have := wtQ_len (q); omega)
                  rw [d2] at kd
                  refine nK ?_
                  refine s_reg rfl ?_
                  refine Run.pure (dd := some 49) rfl rfl (op_fld_ptr (by decide) rfl (Opd.tmp _ _ rfl)) ?_
                  refine Run.load (dd := some 50) rfl rfl (op_load1_flat rfl (Opd.tmp _ _ rfl) tH rfl) ?_
                  refine Run.pure (dd := some 51) rfl rfl (op_move rfl (Opd.tmp _ _ rfl)) ?_
                  refine Run.pureG (dd := some 52) rfl rfl rfl tG (op_move rfl (Opd.tmp _ _ rfl)) ?_
                  refine Run.effG (dd := some 53) rfl rfl rfl tG tGt (op_call (n := 1) (n' := 1) [0] (fun _ => kd) rfl (Opd.func _) (Opds.cons _ _ _ _ (Opd.topt _ _ _ rfl tO) Opds.nil) rfl rfl (Lent.of rfl rfl (by repeat (first | exact trivial | refine ⟨⟨rfl, rfl, rfl, tL⟩, ?_⟩)) rfl) rfl rfl rfl rfl rfl) ?_
                  refine Run.pureG (dd := some 54) rfl rfl rfl tG (op_not rfl (Opd.topt _ _ _ rfl tO)) ?_
                  refine Run.pure (dd := some 55) rfl rfl (op_pick_and rfl (Opd.tmp _ _ rfl) (Opd.topt _ _ _ rfl tO)) ?_
                  refine Run.nil (FinR.mk ?_)
                  refine nK ?_
                  refine n_cond _ rfl (fun hb => ?_) (fun hb => ?_)
                  · simp at hb
                  · refine nK ?_
                    refine s_reg rfl ?_
                    refine Run.pure (dd := some 56) rfl rfl (op_add rfl (Opd.tmp _ _ rfl) (Opd.const _) tI) ?_
                    refine Run.pure (dd := some 32) rfl rfl (op_move rfl (Opd.tmp _ _ rfl)) ?_
                    refine Run.nil (FinR.mk ?_)
                    refine nK ?_
                    refine Next.weakS [3] [] (by rfl) (by first | exact keeps0 hC _ | exact keepsN hC _ rfl) (by repeat (first | exact trivial | refine ⟨⟨_, rfl, .inl ⟨rfl, rfl⟩⟩, ?_⟩ | refine ⟨⟨_, rfl, .inl ⟨slEq rfl tN, rfl⟩⟩, ?_⟩ | refine ⟨⟨_, rfl, .inl ⟨ivEq tX, rfl⟩⟩, ?_⟩)) (by repeat (first | exact trivial | refine ⟨ent_same rfl rfl rfl tL, ?_⟩ | refine ⟨ent_same rfl rfl (rfEq rfl tU) tL, ?_⟩ | refine ⟨ent_same rfl rfl (flEq rfl (by first | (simp; done) | (simp; omega) | (simp [encP, encW, encY, encMs, encBn, encSn, encFe, encLh, encLe, encRg, encEv, encLs, encMl]; done) | simp [maxC, minC])) trivial, ?_⟩)) rfl ((hK1 _ _ _ d3))
            · skip
              by_cases h0 : (handleF a ⟨4, 0, [], rt⟩).2.2 = 0
              · obtain ⟨v1, v2, v3⟩ := hI.rt0 (by omega) hx1 h40 h0
                have ke := event_ok [a, b] q 0 ⟨4, 0, [], rt⟩ v1 (by simp) v3
                rw [show setS [a, b] 0 ⟨4, 0, [], rt⟩ = [(handleF a ⟨4, 0, [], rt⟩).1, b] from rfl, show outS [a, b] 0 ⟨4, 0, [], rt⟩ = pushQ 0 (handleF a ⟨4, 0, [], rt⟩).2.1 from rfl] at ke
                refine nK ?_
                refine s_reg rfl ?_
                refine Run.pure (dd := some 43) rfl rfl (op_move rfl (Opd.tmp _ _ rfl)) ?_
                refine Run.pure (dd := some 44) rfl rfl (op_move rfl (Opd.tmp _ _ rfl)) ?_
                refine Run.pure (dd := some 45) rfl rfl (op_fld_ptr (by decide) rfl (Opd.tmp _ _ rfl)) ?_
                refine Run.load (dd := some 46) rfl rfl (op_load1_flat rfl (Opd.tmp _ _ rfl) tH rfl) ?_
                refine Run.pure (dd := some 47) rfl rfl (op_buildZ (encEv ⟨0, 0, [], []⟩) rfl rfl (by exact zkEv) (FillF.cons _ _ _ _ _ _ _ _ _ _ (by rfl) (Opd.const _) tC (by rfl) tR (FillF.cons _ _ _ _ _ _ _ _ _ _ (by rfl) (Opd.tmp _ _ rfl) tC (by rfl) tR (FillF.nil _)))) ?_
                refine Run.eff (dd := some 48) rfl rfl (op_call (n := 1) (n' := 1) [0] (fun _ => ke) rfl (Opd.func _) (Opds.cons _ _ _ _ (Opd.tmp _ _ rfl) (Opds.cons _ _ _ _ (Opd.tmp _ _ rfl) (Opds.cons _ _ _ _ (Opd.tmp _ _ rfl) Opds.nil))) rfl rfl (Lent.of rfl rfl (by repeat (first | exact trivial | refine ⟨⟨rfl, rfl, rfl, tL⟩, ?_⟩)) rfl) rfl rfl rfl rfl rfl) ?_
                refine Run.nil (FinR.mk ?_)
                refine nK ?_
                cases dl
                · refine nK ?_
                  refine s_reg rfl ?_
                  refine Run.pure (dd := some 49) rfl rfl (op_fld_ptr (by decide) rfl (Opd.tmp _ _ rfl)) ?_
                  refine Run.load (dd := some 50) rfl rfl (op_load1_flat rfl (Opd.tmp _ _ rfl) tH rfl) ?_
                  refine Run.pure (dd := some 51) rfl rfl (op_move rfl (Opd.tmp _ _ rfl)) ?_
                  refine Run.pureG (dd := some 52) rfl rfl rfl tG (op_move rfl (Opd.tmp _ _ rfl)) ?_
                  refine Run.pureG (dd := some 53) rfl rfl rfl tG (op_never (g := (false == true)) (p := BV true) rfl) ?_
                  refine Run.pureG (dd := some 54) rfl rfl rfl tG (op_not rfl (Opd.topt _ _ _ rfl tO)) ?_
                  refine Run.pure (dd := some 55) rfl rfl (op_pick_and rfl (Opd.tmp _ _ rfl) (Opd.topt _ _ _ rfl tO)) ?_
                  refine Run.nil (FinR.mk ?_)
                  refine nK ?_
                  refine n_cond _ rfl (fun hb => ?_) (fun hb => ?_)
                  · simp at hb
                  · refine nK ?_
                    refine s_reg rfl ?_
                    refine Run.pure (dd := some 56) rfl rfl (op_add rfl (Opd.tmp _ _ rfl) (Opd.const _) tI) ?_
                    refine Run.pure (dd := some 32) rfl rfl (op_move rfl (Opd.tmp _ _ rfl)) ?_
                    refine Run.nil (FinR.mk ?_)
                    refine nK ?_
                    refine Next.weakS [3] [] (by rfl) (by first | exact keeps0 hC _ | exact keepsN hC _ rfl) (by repeat (first | exact trivial | refine ⟨⟨_, rfl, .inl ⟨rfl, rfl⟩⟩, ?_⟩ | refine ⟨⟨_, rfl, .inl ⟨slEq rfl tN, rfl⟩⟩, ?_⟩ | refine ⟨⟨_, rfl, .inl ⟨ivEq tX, rfl⟩⟩, ?_⟩)) (by repeat (first | exact trivial | refine ⟨ent_same rfl rfl rfl tL, ?_⟩ | refine ⟨ent_same rfl rfl (rfEq rfl tU) tL, ?_⟩ | refine ⟨ent_same rfl rfl (flEq rfl (by first | (simp; done) | (simp; omega) | (simp [encP, encW, encY, encMs, encBn, encSn, encFe, encLh, encLe, encRg, encEv, encLs, encMl]; done) | simp [maxC, minC])) trivial, ?_⟩)) rfl ((hK1 _ _ _ v2))
                · obtain ⟨d1, a', b', d2, d3⟩ := v2.dlv (by omega)
                  have kd := deliver_m 20001 (by omega) [(handleF a ⟨4, 0, [], rt⟩).1, b] (q ++ pushQ 0 (handleF a ⟨4, 0, [], rt⟩).2.1) d1 (by simp) (by have := (v2).n; have := wtQ_len ((q ++ pushQ 0 (handleF a ⟨4, 0, [], rt⟩).2.1)); omega)
                  rw [d2] at kd
                  refine nK ?_
                  refine s_reg rfl ?_
                  refine Run.pure (dd := some 49) rfl rfl (op_fld_ptr (by decide) rfl (Opd.tmp _ _ rfl)) ?_
                  refine Run.load (dd := some 50) rfl rfl (op_load1_flat rfl (Opd.tmp _ _ rfl) tH rfl) ?_
                  refine Run.pure (dd := some 51) rfl rfl (op_move rfl (Opd.tmp _ _ rfl)) ?_
                  refine Run.pureG (dd := some 52) rfl rfl rfl tG (op_move rfl (Opd.tmp _ _ rfl)) ?_
                  refine Run.effG (dd := some 53) rfl rfl rfl tG tGt (op_call (n := 1) (n' := 1) [0] (fun _ => kd) rfl (Opd.func _) (Opds.cons _ _ _ _ (Opd.topt _ _ _ rfl tO) Opds.nil) rfl rfl (Lent.of rfl rfl (by repeat (first | exact trivial | refine ⟨⟨rfl, rfl, rfl, tL⟩, ?_⟩)) rfl) rfl rfl rfl rfl rfl) ?_
                  refine Run.pureG (dd := some 54) rfl rfl rfl tG (op_not rfl (Opd.topt _ _ _ rfl tO)) ?_
                  refine Run.pure (dd := some 55) rfl rfl (op_pick_and rfl (Opd.tmp _ _ rfl) (Opd.topt _ _ _ rfl tO)) ?_
                  refine Run.nil (FinR.mk ?_)
                  refine nK ?_
                  refine n_cond _ rfl (fun hb => ?_) (fun hb => ?_)
                  · simp at hb
                  · refine nK ?_
                    refine s_reg rfl ?_
                    refine Run.pure (dd := some 56) rfl rfl (op_add rfl (Opd.tmp _ _ rfl) (Opd.const _) tI) ?_
                    refine Run.pure (dd := some 32) rfl rfl (op_move rfl (Opd.tmp _ _ rfl)) ?_
                    refine Run.nil (FinR.mk ?_)
                    refine nK ?_
                    refine Next.weakS [3] [] (by rfl) (by first | exact keeps0 hC _ | exact keepsN hC _ rfl) (by repeat (first | exact trivial | refine ⟨⟨_, rfl, .inl ⟨rfl, rfl⟩⟩, ?_⟩ | refine ⟨⟨_, rfl, .inl ⟨slEq rfl tN, rfl⟩⟩, ?_⟩ | refine ⟨⟨_, rfl, .inl ⟨ivEq tX, rfl⟩⟩, ?_⟩)) (by repeat (first | exact trivial | refine ⟨ent_same rfl rfl rfl tL, ?_⟩ | refine ⟨ent_same rfl rfl (rfEq rfl tU) tL, ?_⟩ | refine ⟨ent_same rfl rfl (flEq rfl (by first | (simp; done) | (simp; omega) | (simp [encP, encW, encY, encMs, encBn, encSn, encFe, encLh, encLe, encRg, encEv, encLs, encMl]; done) | simp [maxC, minC])) trivial, ?_⟩)) rfl ((hK1 _ _ _ d3))
              · have v2 := hI.mono
                have ke := event_bad [a, b] q 0 ⟨4, 0, [], rt⟩ (by simp) (hI.oka (by omega)) hea h0 (by simp)
                refine nK ?_
                refine s_reg rfl ?_
                refine Run.pure (dd := some 43) rfl rfl (op_move rfl (Opd.tmp _ _ rfl)) ?_
                refine Run.pure (dd := some 44) rfl rfl (op_move rfl (Opd.tmp _ _ rfl)) ?_
                refine Run.pure (dd := some 45) rfl rfl (op_fld_ptr (by decide) rfl (Opd.tmp _ _ rfl)) ?_
                refine Run.load (dd := some 46) rfl rfl (op_load1_flat rfl (Opd.tmp _ _ rfl) tH rfl) ?_
                refine Run.pure (dd := some 47) rfl rfl (op_buildZ (encEv ⟨0, 0, [], []⟩) rfl rfl (by exact zkEv) (FillF.cons _ _ _ _ _ _ _ _ _ _ (by rfl) (Opd.const _) tC (by rfl) tR (FillF.cons _ _ _ _ _ _ _ _ _ _ (by rfl) (Opd.tmp _ _ rfl) tC (by rfl) tR (FillF.nil _)))) ?_
                refine Run.eff (dd := some 48) rfl rfl (op_call (n := 1) (n' := 1) [0] (fun _ => ke) rfl (Opd.func _) (Opds.cons _ _ _ _ (Opd.tmp _ _ rfl) (Opds.cons _ _ _ _ (Opd.tmp _ _ rfl) (Opds.cons _ _ _ _ (Opd.tmp _ _ rfl) Opds.nil))) rfl rfl (Lent.of rfl rfl (by repeat (first | exact trivial | refine ⟨⟨rfl, rfl, rfl, tL⟩, ?_⟩)) rfl) rfl rfl rfl rfl rfl) ?_
                refine Run.nil (FinR.mk ?_)
                refine nK ?_
                cases dl
                · refine nK ?_
                  refine s_reg rfl ?_
                  refine Run.pure (dd := some 49) rfl rfl (op_fld_ptr (by decide) rfl (Opd.tmp _ _ rfl)) ?_
                  refine Run.load (dd := some 50) rfl rfl (op_load1_flat rfl (Opd.tmp _ _ rfl) tH rfl) ?_
                  refine Run.pure (dd := some 51) rfl rfl (op_move rfl (Opd.tmp _ _ rfl)) ?_
                  refine Run.pureG (dd := some 52) rfl rfl rfl tG (op_move rfl (Opd.tmp _ _ rfl)) ?_
                  refine Run.pureG (dd := some 53) rfl rfl rfl tG (op_never (g := (false == true)) (p := BV true) rfl) ?_
                  refine Run.pureG (dd := some 54) rfl rfl rfl tG (op_not rfl (Opd.topt _ _ _ rfl tO)) ?_
                  refine Run.pure (dd := some 55) rfl rfl (op_pick_and rfl (Opd.tmp _ _ rfl) (Opd.topt _ _ _ rfl tO)) ?_
                  refine Run.nil (FinR.mk ?_)
                  refine nK ?_
                  refine n_cond _ rfl (fun hb => ?_) (fun hb => ?_)
                  · simp at hb
                  · refine nK ?_
                    refine s_reg rfl ?_
                    refine Run.pure (dd := some 56) rfl rfl (op_add rfl (Opd.tmp _ _ rfl) (Opd.const _) tI) ?_
                    refine Run.pure (dd := some 32) rfl rfl (op_move rfl (Opd.tmp _ _ rfl)) ?_
                    refine Run.nil (FinR.mk ?_)
                    refine nK ?_
                    refine Next.weakS [3] [] (by rfl) (by first | exact keeps0 hC _ | exact keepsN hC _ rfl) (by repeat (first | exact trivial | refine ⟨⟨_, rfl, .inl ⟨rfl, rfl⟩⟩, ?_⟩ | refine ⟨⟨_, rfl, .inl ⟨slEq rfl tN, rfl⟩⟩, ?_⟩ | refine ⟨⟨_, rfl, .inl ⟨ivEq tX, rfl⟩⟩, ?_⟩)) (by repeat (first | exact trivial | refine ⟨ent_same rfl rfl rfl tL, ?_⟩ | refine ⟨ent_same rfl rfl (rfEq rfl tU) tL, ?_⟩ | refine ⟨ent_same rfl rfl (flEq rfl (by first | (simp; done) | (simp; omega) | (simp [encP, encW, encY, encMs, encBn, encSn, encFe, encLh, encLe, encRg, encEv, encLs, encMl]; done) | simp [maxC, minC])) trivial, ?_⟩)) rfl ((hK1 _ _ _ v2))
                · obtain ⟨d1, a', b', d2, d3⟩ := v2.dlv (by omega)
                  have kd := deliver_m 20001 (by omega) [a, b] q d1 (by simp) (by have := (v2).n; have := wtQ_len (q); omega)
                  rw [d2] at kd
                  refine nK ?_
                  refine s_reg rfl ?_
                  refine Run.pure (dd := some 49) rfl rfl (op_fld_ptr (by decide) rfl (Opd.tmp _ _ rfl)) ?_
                  refine Run.load (dd := some 50) rfl rfl (op_load1_flat rfl (Opd.tmp _ _ rfl) tH rfl) ?_
                  refine Run.pure (dd := some 51) rfl rfl (op_move rfl (Opd.tmp _ _ rfl)) ?_
                  refine Run.pureG (dd := some 52) rfl rfl rfl tG (op_move rfl (Opd.tmp _ _ rfl)) ?_
                  refine Run.effG (dd := some 53) rfl rfl rfl tG tGt (op_call (n := 1) (n' := 1) [0] (fun _ => kd) rfl (Opd.func _) (Opds.cons _ _ _ _ (Opd.topt _ _ _ rfl tO) Opds.nil) rfl rfl (Lent.of rfl rfl (by repeat (first | exact trivial | refine ⟨⟨rfl, rfl, rfl, tL⟩, ?_⟩)) rfl) rfl rfl rfl rfl rfl) ?_
                  refine Run.pureG (dd := some 54) rfl rfl rfl tG (op_not rfl (Opd.topt _ _ _ rfl tO)) ?_
                  refine Run.pure (dd := some 55) rfl rfl (op_pick_and rfl (Opd.tmp _ _ rfl) (Opd.topt _ _ _ rfl tO)) ?_
                  refine Run.nil (FinR.mk ?_)
                  refine nK ?_
                  refine n_cond _ rfl (fun hb => ?_) (fun hb => ?_)
                  · simp at hb
                  · refine nK ?_
                    refine s_reg rfl ?_
                    refine Run.pure (dd := some 56) rfl rfl (op_add rfl (Opd.tmp _ _ rfl) (Opd.const _) tI) ?_
                    refine Run.pure (dd := some 32) rfl rfl (op_move rfl (Opd.tmp _ _ rfl)) ?_
                    refine Run.nil (FinR.mk ?_)
                    refine nK ?_
                    refine Next.weakS [3] [] (by rfl) (by first | exact keeps0 hC _ | exact keepsN hC _ rfl) (by repeat (first | exact trivial | refine ⟨⟨_, rfl, .inl ⟨rfl, rfl⟩⟩, ?_⟩ | refine ⟨⟨_, rfl, .inl ⟨slEq rfl tN, rfl⟩⟩, ?_⟩ | refine ⟨⟨_, rfl, .inl ⟨ivEq tX, rfl⟩⟩, ?_⟩)) (by repeat (first | exact trivial | refine ⟨ent_same rfl rfl rfl tL, ?_⟩ | refine ⟨ent_same rfl rfl (rfEq rfl tU) tL, ?_⟩ | refine ⟨ent_same rfl rfl (flEq rfl (by first | (simp; done) | (simp; omega) | (simp [encP, encW, encY, encMs, encBn, encSn, encFe, encLh, encLe, encRg, encEv, encLs, encMl]; done) | simp [maxC, minC])) trivial, ?_⟩)) rfl ((hK1 _ _ _ d3))
        · have hie : i = l.length := by simp at hb; omega
          clear hK
          obtain ⟨d1, a', b', d2, d3⟩ := hI.dlv (by omega)
          have kd := deliver_m 20001 (by omega) [a, b] q d1 (by simp) (by have := hI.n; have := wtQ_len q; omega)
          rw [d2] at kd
          obtain ⟨e1, e2⟩ := d3.done
          have hla := d3.la
          have hlb := d3.lb
          have kb := sameBn_c b'.lc b'.lc (by omega) (by omega)
          have ka := sameBn_c a'.lc a'.lc (by omega) (by omega)
          refine nK ?_
          refine s_reg rfl ?_
          refine Run.pure (dd := some 57) rfl rfl (op_move rfl (Opd.tmp _ _ rfl)) ?_
          refine Run.eff (dd := some 58) rfl rfl (op_call (n := 1) (n' := 1) [0] (fun _ => kd) rfl (Opd.func _) (Opds.cons _ _ _ _ (Opd.tmp _ _ rfl) Opds.nil) rfl rfl (Lent.of rfl rfl (by repeat (first | exact trivial | refine ⟨⟨rfl, rfl, rfl, tL⟩, ?_⟩)) rfl) rfl rfl rfl rfl rfl) ?_
          refine Run.pure (dd := some 59) rfl rfl (op_not rfl (Opd.tmp _ _ rfl)) ?_
          refine Run.nil (FinR.mk ?_)
          refine nK ?_
          refine n_cond _ rfl (fun hb => ?_) (fun hb => ?_)
          · simp at hb
          · refine nK ?_
            refine Next.take 0 0 0 rfl rfl rfl rfl ?_
            obtain ⟨aro, afr, alc, arm, aps, art⟩ := a'
            obtain ⟨bro, bfr, blc, brm, bps, brt⟩ := b'
            dsimp only at e1 e2 ka kb
            subst e1
            subst e2
            refine nK ?_
            refine s_draw mixed ?_
            refine Run.pure (dd := some 60) rfl rfl (op_call_pure (fun _ => awake_c) rfl (Opd.func _) Opds.nil) ?_
            refine Run.pure (dd := some 61) rfl rfl (op_move rfl (Opd.tmp _ _ rfl)) ?_
            refine Run.pureG (dd := some 62) rfl rfl rfl tG (op_move rfl (Opd.tmp _ _ rfl)) ?_
            refine Run.pureG (dd := some 63) rfl rfl rfl tG (op_nilck_ptr rfl (Opd.topt _ _ _ rfl tO)) ?_
            refine Run.pureG (dd := some 64) rfl rfl rfl tG (op_fld_ptr (by decide) rfl (Opd.topt _ _ _ rfl tO)) ?_
            refine Run.loadG (dd := some 65) rfl rfl rfl tG (op_load1_refs rfl (Opd.topt _ _ _ rfl tO) tH rfl) ?_
            refine Run.pureG (dd := some 66) rfl rfl rfl tG (op_idx_sl0 0 rfl (Opd.topt _ _ _ rfl tO) (Opd.const _) (by intro _; exact ⟨rfl, by simp⟩)) ?_
            refine Run.pureG (dd := some 67) rfl rfl rfl tG (op_fld_ptr (by decide) rfl (Opd.topt _ _ _ rfl tO)) ?_
            refine Run.loadG (dd := some 68) rfl rfl rfl tG (op_load1_flat rfl (Opd.topt _ _ _ rfl tO) tH rfl) ?_
            refine Run.pureG (dd := some 69) rfl rfl rfl tG (op_move rfl (Opd.tmp _ _ rfl)) ?_
            refine Run.pureG (dd := some 70) rfl rfl rfl tG (op_nilck_ptr rfl (Opd.topt _ _ _ rfl tO)) ?_
            refine Run.pureG (dd := some 71) rfl rfl rfl tG (op_fld_ptr (by decide) rfl (Opd.topt _ _ _ rfl tO)) ?_
            refine Run.loadG (dd := some 72) rfl rfl rfl tG (op_load1_refs rfl (Opd.topt _ _ _ rfl tO) tH rfl) ?_
            refine Run.pureG (dd := some 73) rfl rfl rfl tG (op_idx_sl0 1 rfl (Opd.topt _ _ _ rfl tO) (Opd.const _) (by intro _; exact ⟨rfl, by simp⟩)) ?_
            refine Run.pureG (dd := some 74) rfl rfl rfl tG (op_fld_ptr (by decide) rfl (Opd.topt _ _ _ rfl tO)) ?_
            refine Run.loadG (dd := some 75) rfl rfl rfl tG (op_load1_flat rfl (Opd.topt _ _ _ rfl tO) tH rfl) ?_
            refine Run.pureG (dd := some 76) rfl rfl rfl tG (op_call_pure (fun _ => kb) rfl (Opd.func _) (Opds.cons _ _ _ _ (Opd.topt _ _ _ rfl tO) (Opds.cons _ _ _ _ (Opd.topt _ _ _ rfl tO) Opds.nil))) ?_
            refine Run.pure (dd := some 77) rfl rfl (op_pick_and rfl (Opd.tmp _ _ rfl) (Opd.topt _ _ _ rfl tO)) ?_
            refine Run.pure (dd := some 78) rfl rfl (op_move rfl (Opd.tmp _ _ rfl)) ?_
            refine Run.pureG (dd := some 79) rfl rfl rfl tG (op_move rfl (Opd.tmp _ _ rfl)) ?_
            refine Run.pureG (dd := some 80) rfl rfl rfl tG (op_nilck_ptr rfl (Opd.topt _ _ _ rfl tO)) ?_
            refine Run.pureG (dd := some 81) rfl rfl rfl tG (op_fld_ptr (by decide) rfl (Opd.topt _ _ _ rfl tO)) ?_
            refine Run.loadG (dd := some 82) rfl rfl rfl tG (op_load1_refs rfl (Opd.topt _ _ _ rfl tO) tH rfl) ?_
            refine Run.pureG (dd := some 83) rfl rfl rfl tG (op_idx_sl0 1 rfl (Opd.topt _ _ _ rfl tO) (Opd.const _) (by intro _; exact ⟨rfl, by simp⟩)) ?_
            refine Run.pureG (dd := some 84) rfl rfl rfl tG (op_fld_ptr (by decide) rfl (Opd.topt _ _ _ rfl tO)) ?_
            refine Run.loadG (dd := some 85) rfl rfl rfl tG (op_load1_flat rfl (Opd.topt _ _ _ rfl tO) tH rfl) ?_
            refine Run.pureG (dd := some 86) rfl rfl rfl tG (op_move rfl (Opd.tmp _ _ rfl)) ?_
            refine Run.pureG (dd := some 87) rfl rfl rfl tG (op_nilck_ptr rfl (Opd.topt _ _ _ rfl tO)) ?_
            refine Run.pureG (dd := some 88) rfl rfl rfl tG (op_fld_ptr (by decide) rfl (Opd.topt _ _ _ rfl tO)) ?_
            refine Run.loadG (dd := some 89) rfl rfl rfl tG (op_load1_refs rfl (Opd.topt _ _ _ rfl tO) tH rfl) ?_
            refine Run.pureG (dd := some 90) rfl rfl rfl tG (op_idx_sl0 0 rfl (Opd.topt _ _ _ rfl tO) (Opd.const _) (by intro _; exact ⟨rfl, by simp⟩)) ?_
            refine Run.pureG (dd := some 91) rfl rfl rfl tG (op_fld_ptr (by decide) rfl (Opd.topt _ _ _ rfl tO)) ?_
            refine Run.loadG (dd := some 92) rfl rfl rfl tG (op_load1_flat rfl (Opd.topt _ _ _ rfl tO) tH rfl) ?_
            refine Run.pureG (dd := some 93) rfl rfl rfl tG (op_call_pure (fun _ => ka) rfl (Opd.func _) (Opds.cons _ _ _ _ (Opd.topt _ _ _ rfl tO) (Opds.cons _ _ _ _ (Opd.topt _ _ _ rfl tO) Opds.nil))) ?_
            refine Run.pure (dd := some 94) rfl rfl (op_pick_and rfl (Opd.tmp _ _ rfl) (Opd.topt _ _ _ rfl tO)) ?_
            refine Run.pure (dd := some 2) rfl rfl (op_assign rfl (Opd.tmp _ _ rfl)) ?_
            refine Run.nil (FinD.mk (by kernel_rfl) ?_)
            refine nK ?_
            refine s_oB hC rfl rfl ?_
            simp
end Go.Proofs.Ytkofbemgpeagbaa
/- How the arguments of the rows read. -/
namespace Go.Proofs.Ytkofbemgpeagbaa
open Go Go.RT Go.Proofs Go.Pl
set_option linter.all false
variable {H : Type} {enc : TypeId × Value → H} {W : World} {ok : DataW H → Prop} {B : Nat}
theorem rdc_n : RdC ok enc Try.prog W 3 (fun fs => ∃ n, inr .i64 n ∧ fs = [If .i64 n]) := rdc_int (P := Try.prog) (t := 3) inferInstance
theorem rdc_u : RdC ok enc Try.prog W 22 (fun fs => ∃ n, inr .u32 n ∧ fs = [If .u32 n]) := rdc_int (P := Try.prog) (t := 22) inferInstance
theorem rdc_a : RdC ok enc Try.prog W 23 (fun fs => ∃ n, inr .u32 n ∧ fs = [If .u32 n]) := rdc_int (P := Try.prog) (t := 23) inferInstance
theorem rdc_b : RdC ok enc Try.prog W 4 (fun fs => ∃ b, fs = [Bf b]) := rdc_bool (P := Try.prog) (t := 4) inferInstance
theorem rdc_pfx (dn : DnOk H ok B) : RdC ok enc Try.prog W 25 (fun fs => ∃ p : Pfx, p.ok ∧ fs = encP p) :=
  (rdc_struct (P := Try.prog) (t := 25) dn Try.underlying25 (by kernel_rfl) (.cons _ _ _ _ rdc_a (.cons _ _ _ _ rdc_n .nil))).imp fun fs h => by
    obtain ⟨_, _, rfl, ⟨a, ha, rfl⟩, _, _, rfl, ⟨b, hb, rfl⟩, rfl⟩ := h
    have ha' : 0 ≤ a ∧ a < 4294967296 := by simp only [inr] at ha; omega
    refine ⟨⟨a.toNat, b⟩, ⟨by show a.toNat < 2 ^ 32; omega, hb⟩, ?_⟩
    simp only [encP]
    rw [Int.toNat_of_nonneg ha'.1]; rfl
theorem rdc_ws (dn : DnOk H ok B) : RdC ok enc Try.prog W 40 (fun fs => ∃ l : List Int, (∀ x ∈ l, inr .u32 x) ∧ l.length ≤ B ∧ fs = [VW l]) :=
  (rdc_slice (P := Try.prog) (t := 40) (e := 22) dn inferInstance inferInstance (by decide) rdc_u).imp fun fs h => by
    obtain ⟨rows, hr, hl, rfl⟩ := h
    obtain ⟨l, rfl, ho⟩ := rows_of (enc := encW) (ok := inr .u32) (fun fs h => h) hr
    exact ⟨l, ho, by simpa using hl, rfl⟩
/-- a route, its hops of any number -/
theorem rdc_fe (dn : DnOk H ok B) : RdC ok enc Try.prog W 81 (fun fs => ∃ e : Fec, (e.px.ok ∧ e.hs.length ≤ B) ∧ fs = encFe e) :=
  (rdc_struct (P := Try.prog) (t := 81) dn Try.underlying81 (by kernel_rfl) (.cons _ _ _ _ (rdc_pfx dn) (.cons _ _ _ _ rdc_b (.cons _ _ _ _ (rdc_ws dn) .nil)))).imp fun fs h => by
    obtain ⟨_, _, rfl, ⟨a1, h1, rfl⟩, _, _, rfl, ⟨a2, rfl⟩, _, _, rfl, ⟨a3, _, h3, rfl⟩, rfl⟩ := h
    exact ⟨⟨a1, a2, a3⟩, ⟨h1, h3⟩, rfl⟩
theorem rdc_fes (dn : DnOk H ok B) : RdC ok enc Try.prog W 41 (fun fs => ∃ l : List Fec, ((∀ x ∈ l, x.px.ok ∧ x.hs.length ≤ B) ∧ l.length ≤ B) ∧ fs = [VFe l]) :=
  (rdc_slice (P := Try.prog) (t := 41) (e := 81) dn inferInstance inferInstance (by decide) (rdc_fe dn)).imp fun fs h => by
    obtain ⟨rows, hr, hl, rfl⟩ := h
    obtain ⟨l, rfl, ho⟩ := rows_of (enc := encFe) (ok := fun e => e.px.ok ∧ e.hs.length ≤ B) (fun fs h => h) hr
    exact ⟨l, ⟨ho, by simpa using hl⟩, rfl⟩
theorem rdc_tn (dn : DnOk H ok B) (hB : B ≤ 9223372036854775807) : RdC ok enc Try.prog W 65 (fun fs => ∃ e : Trn, okTr e ∧ fs = encTr' e) :=
  (rdc_struct (P := Try.prog) (t := 65) dn Try.underlying65 (by kernel_rfl) (.cons _ _ _ _ rdc_b (.cons _ _ _ _ (rdc_fes dn) (.cons _ _ _ _ rdc_b .nil)))).imp fun fs h => by
    obtain ⟨_, _, rfl, ⟨a1, rfl⟩, _, _, rfl, ⟨a2, h2, rfl⟩, _, _, rfl, ⟨a3, rfl⟩, rfl⟩ := h
    exact ⟨⟨a1, a2, a3⟩, ⟨fun x hx => ⟨(h2.1 x hx).1, Nat.le_trans (h2.1 x hx).2 hB⟩, Nat.le_trans h2.2 hB⟩, rfl⟩
theorem rdc_tns (dn : DnOk H ok B) (hB : B ≤ 9223372036854775807) : RdC ok enc Try.prog W 59 (fun fs => ∃ l : List Trn, ((∀ e ∈ l, okTr e) ∧ l.length ≤ 9223372036854775807) ∧ fs = [VTr l]) :=
  (rdc_slice (P := Try.prog) (t := 59) (e := 65) dn inferInstance inferInstance (by decide) (rdc_tn dn hB)).imp fun fs h => by
    obtain ⟨rows, hr, hl, rfl⟩ := h
    obtain ⟨l, rfl, ho⟩ := rows_of (enc := encTr') (ok := okTr) (fun fs h => h) hr
    exact ⟨l, ⟨ho, Nat.le_trans (by simpa using hl) hB⟩, rfl⟩
end Go.Proofs.Ytkofbemgpeagbaa
