/- A part of the proof: IP3, IP4, ST1, ST2, ST5, ST6, IP5, IP6, X200, X201, X202, X203, IP7, X204, SI1, SI2, SI3, SI4, SI5, IP8. -/
import Derived.Test.YtcillieggklaaaaGreatZE
set_option linter.all false
namespace Go.Pl
open Go Go.RT
set_option linter.all false
/- the nodes that lose all their shortest paths -/
def inE (es : List Edg) (v : Nat) : List Edg := es.filter fun e => decide (e.t = (v : Int))
abbrev gtb (l : List Bool) (v : Nat) : Bool := l.getD v false
def heldP (d : List Int) (gone : List Bool) (k : Int) (e : Edg) : Bool := (!gtb gone e.f.toNat && decide (0 ≤ gt0 d e.f.toNat)) && decide (gt0 d e.f.toNat + e.c = k)
def lrE (d : List Int) (k : Int) (h : Hq) (e : Edg) : Hq := if 0 ≤ gt0 d e.t.toNat ∧ k + e.c = gt0 d e.t.toNat then setH h e.t.toNat (gt0 d e.t.toNat) else h
def lostF (es : List Edg) (d : List Int) : Nat → List Bool → List Int → Hq → List Int
  | 0, _, out, _ => out
  | f + 1, gone, out, h =>
    if h.it.length = 0 then out
    else if (inE es (h.item 0)).any (heldP d gone (h.key (h.item 0))) = true then lostF es d f gone out (dropH h (h.item 0))
    else lostF es d f (gone.set (h.item 0) true) (out ++ [(h.item 0 : Int)]) ((outE es (h.item 0)).foldl (lrE d (h.key (h.item 0))) (dropH h (h.item 0)))
structure LJ (es : List Edg) (n a : Nat) (d : List Int) (gone : List Bool) (out : List Int) (h : Hq) (todo : List Edg) : Prop where
  hg : HG h
  hl : h.pl.length = n
  gl : gone.length = n
  q : ∀ v, v < n → 0 ≤ h.place v → v ≠ a ∧ 0 ≤ gt0 d v ∧ h.key v = gt0 d v ∧ gtb gone v = false
  g : ∀ v, v < n → gtb gone v = true → v ≠ a ∧ 0 ≤ gt0 d v ∧ ∀ e ∈ es, e.t = (v : Int) → 0 ≤ gt0 d e.f.toNat → gt0 d e.f.toNat + e.c = gt0 d v → gtb gone e.f.toNat = true
  s : ∀ v, v < n → v ≠ a → 0 ≤ gt0 d v → gtb gone v = false → 0 ≤ h.place v ∨ ∃ e ∈ es, e.t = (v : Int) ∧ 0 ≤ gt0 d e.f.toNat ∧ gt0 d e.f.toNat + e.c = gt0 d v ∧ (gtb gone e.f.toNat = false ∨ e ∈ todo)
  o : ∀ x : Int, x ∈ out ↔ 0 ≤ x ∧ x < n ∧ gtb gone x.toNat = true
  nd : out.Nodup
structure DP (es : List Edg) (n a : Nat) (d : List Int) : Prop where
  f : ∀ e ∈ es, 0 ≤ e.f ∧ e.f < n
  t : ∀ e ∈ es, 0 ≤ e.t ∧ e.t < n
  c : ∀ e ∈ es, 0 ≤ e.c ∧ e.c ≤ 65535
  ne : ∀ e ∈ es, e.f ≠ e.t
  dl : d.length = n
  root : gt0 d a = 0
  pos : ∀ v, v < n → v ≠ a → 0 ≤ gt0 d v → 1 ≤ gt0 d v
theorem gtb_set {l : List Bool} {i j : Nat} (hi : i < l.length) : gtb (l.set i true) j = if i = j then true else gtb l j := getD_set _ _ _ _ _ hi
theorem LJ.pop {es : List Edg} {n a : Nat} {d : List Int} {gone : List Bool} {out : List Int} {h : Hq} (p : DP es n a d) (o : LJ es n a d gone out h []) (hne : 0 < h.it.length) :
    h.item 0 < n ∧ h.item 0 ≠ a ∧ 0 ≤ gt0 d (h.item 0) ∧ h.key (h.item 0) = gt0 d (h.item 0) ∧ gtb gone (h.item 0) = false ∧ (dropH h (h.item 0)).it.length = h.it.length - 1 ∧
    ((inE es (h.item 0)).any (heldP d gone (h.key (h.item 0))) = true → LJ es n a d gone out (dropH h (h.item 0)) []) ∧
    ((inE es (h.item 0)).any (heldP d gone (h.key (h.item 0))) = false → out.length < n ∧ LJ es n a d (gone.set (h.item 0) true) (out ++ [(h.item 0 : Int)]) (dropH h (h.item 0)) (outE es (h.item 0))) := by
  have hx : h.item 0 < n := by rw [← o.hl]; exact o.hg.hi.ok.item hne
  have hp : 0 ≤ h.place (h.item 0) := by rw [o.hg.hi.inv 0 hne]; decide
  obtain ⟨d1, d2, d3, d4, d5⟩ := o.hg.drop (by rw [o.hl]; exact hx) hp
  obtain ⟨q1, q2, q3, q4⟩ := o.q _ hx hp
  generalize h.item 0 = x at *
  have hkey : ∀ w, (dropH h x).key w = h.key w := fun w => by unfold Hq.key; rw [d4]
  rw [q3]
  have hany : (inE es x).any (heldP d gone (gt0 d x)) = true ↔ ∃ e ∈ es, e.t = (x : Int) ∧ gtb gone e.f.toNat = false ∧ 0 ≤ gt0 d e.f.toNat ∧ gt0 d e.f.toNat + e.c = gt0 d x := by
    rw [List.any_eq_true]
    simp only [inE, List.mem_filter, decide_eq_true_eq, heldP, Bool.and_eq_true, Bool.not_eq_true']
    constructor
    · rintro ⟨e, ⟨h1, h2⟩, ⟨h3, h4⟩, h5⟩; exact ⟨e, h1, h2, h3, h4, h5⟩
    · rintro ⟨e, h1, h2, h3, h4, h5⟩; exact ⟨e, ⟨h1, h2⟩, ⟨h3, h4⟩, h5⟩
  refine ⟨hx, q1, q2, rfl, q4, d2, fun hh => ?_, fun hh => ?_⟩
  · obtain ⟨ed, e1, e2, e3, e4, e5⟩ := hany.1 hh
    refine ⟨d1, by rw [d3, o.hl], o.gl, fun v hv h0 => ?_, o.g, fun v hv hva h0 hg => ?_, o.o, o.nd⟩
    · rw [hkey]; exact o.q v hv ((d5 v).1 h0).2
    · by_cases e : v = x
      · subst e; exact .inr ⟨ed, e1, e2, e4, e5, .inl e3⟩
      · rcases o.s v hv hva h0 hg with h1 | h1
        · exact .inl ((d5 v).2 ⟨e, h1⟩)
        · exact .inr h1
  · have hgs : ∀ v, gtb (gone.set x true) v = if x = v then true else gtb gone v := fun v => gtb_set (by rw [o.gl]; exact hx)
    have hno : ∀ e ∈ es, e.t = (x : Int) → 0 ≤ gt0 d e.f.toNat → gt0 d e.f.toNat + e.c = gt0 d x → gtb gone e.f.toNat = true := fun e he ht hf hs => by
      cases hq : gtb gone e.f.toNat with
      | true => rfl
      | false => have := hany.2 ⟨e, he, ht, hq, hf, hs⟩; rw [hh] at this; cases this
    have hxo : (x : Int) ∉ out := fun hm => by
      have := ((o.o x).1 hm).2.2
      rw [Int.toNat_natCast, q4] at this; cases this
    have hnd : (out ++ [(x : Int)]).Nodup := by
      rw [List.nodup_append]
      refine ⟨o.nd, by simp, fun y hy z hz => ?_⟩
      have : z = (x : Int) := by simpa using hz
      subst this; exact fun e => hxo (by rw [← e]; exact hy)
    have hln : (out ++ [(x : Int)]).length ≤ n := by
      have h2 : NdL n (out ++ [(x : Int)]) := ⟨hnd, fun y hy => by
        rcases List.mem_append.1 hy with hy | hy
        · have := (o.o y).1 hy; omega
        · have : y = (x : Int) := by simpa using hy
          omega⟩
      exact h2.len
    simp only [List.length_append, List.length_singleton] at hln
    refine ⟨by omega, d1, by rw [d3, o.hl], by rw [List.length_set, o.gl], fun v hv h0 => ?_, fun v hv hg => ?_, fun v hv hva h0 hg => ?_, fun y => ?_, hnd⟩
    · obtain ⟨e1, e2⟩ := (d5 v).1 h0
      obtain ⟨s1, s2, s3, s4⟩ := o.q v hv e2
      rw [hkey, hgs, if_neg (fun e => e1 e.symm)]
      exact ⟨s1, s2, s3, s4⟩
    · rw [hgs] at hg
      have hup : ∀ w, gtb gone w = true → gtb (gone.set x true) w = true := fun w hw => by rw [hgs, hw]; split <;> rfl
      by_cases e : x = v
      · subst e
        exact ⟨q1, q2, fun e he ht hf hs => hup _ (hno e he ht hf hs)⟩
      · rw [if_neg e] at hg
        obtain ⟨g1, g2, g3⟩ := o.g v hv hg
        exact ⟨g1, g2, fun e he ht hf hs => hup _ (g3 e he ht hf hs)⟩
    · rw [hgs] at hg
      by_cases e : x = v
      · rw [if_pos e] at hg; cases hg
      · rw [if_neg e] at hg
        rcases o.s v hv hva h0 hg with h1 | ⟨ed, e1, e2, e3, e4, e5⟩
        · exact .inl ((d5 v).2 ⟨fun e2 => e e2.symm, h1⟩)
        · refine .inr ⟨ed, e1, e2, e3, e4, ?_⟩
          have hef := p.f ed e1
          by_cases e6 : x = ed.f.toNat
          · refine .inr (List.mem_filter.2 ⟨e1, ?_⟩)
            rw [decide_eq_true_eq]; omega
          · rw [hgs, if_neg e6]
            rcases e5 with e5 | e5
            · exact .inl e5
            · cases e5
    · rw [List.mem_append, o.o y]
      constructor
      · rintro (⟨h1, h2, h3⟩ | h1)
        · exact ⟨h1, h2, by rw [hgs, h3]; split <;> rfl⟩
        · have : y = (x : Int) := by simpa using h1
          subst this
          exact ⟨by omega, by omega, by rw [hgs, Int.toNat_natCast, if_pos rfl]⟩
      · rintro ⟨h1, h2, h3⟩
        rw [hgs] at h3
        by_cases e : x = y.toNat
        · right; simp; omega
        · rw [if_neg e] at h3; exact .inl ⟨h1, h2, h3⟩
theorem LJ.step {es : List Edg} {n a x : Nat} {d : List Int} {gone : List Bool} {out : List Int} {h : Hq} {e : Edg} {todo : List Edg} (p : DP es n a d) (he : e ∈ es) (hef : e.f = (x : Int)) (hx : gtb gone x = true) (hxn : x < n) (htodo : ∀ e' ∈ todo, e'.f = (x : Int)) (hnew : ∀ v, v < n → gtb gone v = true → ∀ e' ∈ es, e'.f = (x : Int) → e'.t = (v : Int) → gt0 d x + e'.c ≠ gt0 d v)
    (o : LJ es n a d gone out h (e :: todo)) : LJ es n a d gone out (lrE d (gt0 d x) h e) todo := by
  have het := p.t e he
  have hec := p.c e he
  obtain ⟨x1, x2, _⟩ := o.g x hxn hx
  unfold lrE
  by_cases hc : 0 ≤ gt0 d e.t.toNat ∧ gt0 d x + e.c = gt0 d e.t.toNat
  · rw [if_pos hc]
    have htl : e.t.toNat < h.pl.length := by rw [o.hl]; omega
    obtain ⟨s1, s2, s3, s4⟩ := o.hg.set htl (gt0 d e.t.toNat)
    have hkey := key_set (by rw [← o.hg.hi.ok.len]; exact htl) s3
    refine ⟨s1, by rw [s2, o.hl], o.gl, fun v hv h0 => ?_, o.g, fun v hv hva h0 hg => ?_, o.o, o.nd⟩
    · rw [hkey]
      by_cases e1 : e.t.toNat = v
      · rw [if_pos e1, e1]
        subst e1
        refine ⟨fun e2 => ?_, hc.1, rfl, ?_⟩
        · have h1 := p.pos x hxn x1 x2
          have h2 := p.root
          rw [e2] at hc; omega
        · cases hq : gtb gone e.t.toNat with
          | false => rfl
          | true => exact absurd hc.2 (hnew _ (by omega) hq e he hef (by omega))
      · rw [if_neg e1]
        rcases (s4 v).1 h0 with h1 | h1
        · exact absurd h1.symm e1
        · exact o.q v hv h1
    · rcases o.s v hv hva h0 hg with h1 | ⟨ed, e1, e2, e3, e4, e5⟩
      · exact .inl ((s4 v).2 (.inr h1))
      · rcases e5 with e5 | e5
        · exact .inr ⟨ed, e1, e2, e3, e4, .inl e5⟩
        · rcases List.mem_cons.1 e5 with rfl | e5
          · exact .inl ((s4 v).2 (.inl (by omega)))
          · exact .inr ⟨ed, e1, e2, e3, e4, .inr e5⟩
  · rw [if_neg hc]
    refine ⟨o.hg, o.hl, o.gl, o.q, o.g, fun v hv hva h0 hg => ?_, o.o, o.nd⟩
    rcases o.s v hv hva h0 hg with h1 | ⟨ed, e1, e2, e3, e4, e5⟩
    · exact .inl h1
    · rcases e5 with e5 | e5
      · exact .inr ⟨ed, e1, e2, e3, e4, .inl e5⟩
      · rcases List.mem_cons.1 e5 with rfl | e5
        · exfalso
          rw [hef, Int.toNat_natCast] at e4
          rw [e2, Int.toNat_natCast] at hc
          exact hc ⟨h0, e4⟩
        · exact .inr ⟨ed, e1, e2, e3, e4, .inr e5⟩
theorem LJ.steps {es : List Edg} {n a x : Nat} {d : List Int} {gone : List Bool} {out : List Int} (p : DP es n a d) (hx : gtb gone x = true) (hxn : x < n) (hnew : ∀ v, v < n → gtb gone v = true → ∀ e' ∈ es, e'.f = (x : Int) → e'.t = (v : Int) → gt0 d x + e'.c ≠ gt0 d v) :
    ∀ (todo : List Edg) {h : Hq}, (∀ e ∈ todo, e ∈ es ∧ e.f = (x : Int)) → LJ es n a d gone out h todo → LJ es n a d gone out (todo.foldl (lrE d (gt0 d x)) h) []
  | [], h, _, o => o
  | e :: todo, h, ht, o => LJ.steps p hx hxn hnew todo (fun e' h' => ht e' (by simp [h'])) (o.step p (ht e (by simp)).1 (ht e (by simp)).2 hx hxn (fun e' h' => (ht e' (by simp [h'])).2) hnew)
/-- no node that is gone is held up by one that goes now -/
theorem LJ.fresh {es : List Edg} {n a : Nat} {d : List Int} {gone : List Bool} {out : List Int} {h : Hq} {todo : List Edg} (p : DP es n a d) {x : Nat} (hxn : x < n) (hxg : gtb gone x = false) (hx0 : 0 ≤ gt0 d x)
    (o : LJ es n a d gone out h todo) : ∀ v, v < n → gtb (gone.set x true) v = true → ∀ e' ∈ es, e'.f = (x : Int) → e'.t = (v : Int) → gt0 d x + e'.c ≠ gt0 d v := fun v hv hg e he hf ht hs => by
  have hgs : gtb (gone.set x true) v = if x = v then true else gtb gone v := gtb_set (by rw [o.gl]; exact hxn)
  rw [hgs] at hg
  by_cases e1 : x = v
  · have := p.ne e he; omega
  · rw [if_neg e1] at hg
    have := (o.g v hv hg).2.2 e he ht (by rw [hf, Int.toNat_natCast]; exact hx0) (by rw [hf, Int.toNat_natCast]; exact hs)
    rw [hf, Int.toNat_natCast, hxg] at this; cases this
theorem LJ.small {es : List Edg} {n a : Nat} {d : List Int} {gone : List Bool} {out : List Int} {h : Hq} {todo : List Edg} (o : LJ es n a d gone out h todo) : h.it.length ≤ n ∧ out.length ≤ n := by
  have h1 := o.hg.hi.small
  rw [o.hl] at h1
  have h2 : NdL n out := ⟨o.nd, fun y hy => by have := (o.o y).1 hy; omega⟩
  exact ⟨h1, h2.len⟩
/-- what lost returns -/
def LostOk (es : List Edg) (n a : Nat) (d : List Int) (L : List Int) : Prop :=
  L.length ≤ n ∧ (∀ x ∈ L, 0 ≤ x ∧ x < n ∧ x ≠ (a : Int) ∧ 0 ≤ gt0 d x.toNat) ∧
  ∀ v, v < n → v ≠ a → 0 ≤ gt0 d v → (v : Int) ∉ L → ∃ e ∈ es, e.t = (v : Int) ∧ 0 ≤ gt0 d e.f.toNat ∧ gt0 d e.f.toNat + e.c = gt0 d v ∧ e.f ∉ L
theorem LJ.done {es : List Edg} {n a : Nat} {d : List Int} {gone : List Bool} {out : List Int} {h : Hq} (p : DP es n a d) (o : LJ es n a d gone out h []) (he : h.it.length = 0) : LostOk es n a d out := by
  refine ⟨o.small.2, fun x hx => ?_, fun v hv hva h0 hno => ?_⟩
  · obtain ⟨h1, h2, h3⟩ := (o.o x).1 hx
    obtain ⟨g1, g2, _⟩ := o.g x.toNat (by omega) h3
    exact ⟨h1, h2, by omega, g2⟩
  · have hg : gtb gone v = false := by
      cases hq : gtb gone v with
      | false => rfl
      | true => exact absurd ((o.o v).2 ⟨by omega, by omega, by rw [Int.toNat_natCast]; exact hq⟩) hno
    rcases o.s v hv hva h0 hg with h1 | ⟨ed, e1, e2, e3, e4, e5⟩
    · have := (o.hg.hi.at_ v (by rw [o.hl]; exact hv) h1).1; omega
    · refine ⟨ed, e1, e2, e3, e4, fun hm => ?_⟩
      have := ((o.o _).1 hm).2.2
      rcases e5 with e5 | e5
      · rw [this] at e5; cases e5
      · cases e5
/-- how many rounds are left -/
def lostM (n : Nat) (out : List Int) (h : Hq) : Nat := (n - out.length) * (n + 1) + h.it.length
theorem lostM_yes {n : Nat} {out : List Int} {h h' : Hq} (h1 : 0 < h.it.length) (h2 : h'.it.length = h.it.length - 1) : lostM n out h' + 1 ≤ lostM n out h := by unfold lostM; omega
theorem lostM_no {n x : Nat} {out : List Int} {h h' : Hq} (h0 : out.length < n) (h1 : 0 < h.it.length) (h2 : h'.it.length ≤ n) : lostM n (out ++ [(x : Int)]) h' + 1 ≤ lostM n out h := by
  unfold lostM
  have e : n - out.length = (n - (out ++ [(x : Int)]).length) + 1 := by simp only [List.length_append, List.length_singleton]; omega
  rw [e, Nat.add_mul]; omega
theorem LJ.round {es : List Edg} {n a : Nat} {d : List Int} {gone : List Bool} {out : List Int} {h : Hq} (p : DP es n a d) (o : LJ es n a d gone out h []) (hne : 0 < h.it.length) (hh : (inE es (h.item 0)).any (heldP d gone (h.key (h.item 0))) = false) :
    LJ es n a d (gone.set (h.item 0) true) (out ++ [(h.item 0 : Int)]) ((outE es (h.item 0)).foldl (lrE d (h.key (h.item 0))) (dropH h (h.item 0))) [] ∧ out.length < n := by
  obtain ⟨p1, p2, p3, p4, p5, p6, _, p7⟩ := o.pop p hne
  obtain ⟨q1, q2⟩ := p7 hh
  rw [p4]
  refine ⟨LJ.steps p (by rw [gtb_set (by rw [o.gl]; exact p1), if_pos rfl]) p1 (o.fresh p p1 p5 p3) _ (fun e he => ?_) q2, q1⟩
  simpa [outE] using he
theorem LJ.run {es : List Edg} {n a : Nat} {d : List Int} (p : DP es n a d) : ∀ (f : Nat) {gone : List Bool} {out : List Int} {h : Hq}, lostM n out h < f → LJ es n a d gone out h [] → LostOk es n a d (lostF es d f gone out h)
  | 0, gone, out, h, hf, o => by omega
  | f + 1, gone, out, h, hf, o => by
    simp only [lostF]
    by_cases he : h.it.length = 0
    · rw [if_pos he]; exact o.done p he
    · rw [if_neg he]
      have hne : 0 < h.it.length := by omega
      obtain ⟨p1, p2, p3, p4, p5, p6, p7, _⟩ := o.pop p hne
      cases hh : (inE es (h.item 0)).any (heldP d gone (h.key (h.item 0))) with
      | true =>
        rw [if_pos rfl]
        exact LJ.run p f (by have := lostM_yes (n := n) (out := out) hne p6; omega) (p7 hh)
      | false =>
        rw [if_neg (by simp)]
        obtain ⟨r1, r2⟩ := o.round p hne hh
        exact LJ.run p f (by have := lostM_no (x := h.item 0) r2 hne r1.small.1; omega) r1
/-- the start -/
theorem LJ.start {es : List Edg} {n a at_ : Nat} {d : List Int} (p : DP es n a d) (ha : at_ < n) (hne : at_ ≠ a) (h0 : 0 ≤ gt0 d at_)
    (hs : ∀ v, v < n → v ≠ a → v ≠ at_ → 0 ≤ gt0 d v → ∃ e ∈ es, e.t = (v : Int) ∧ 0 ≤ gt0 d e.f.toNat ∧ gt0 d e.f.toNat + e.c = gt0 d v) :
    LJ es n a d (List.replicate n false) [] (setH (newH n) at_ (gt0 d at_)) [] := by
  obtain ⟨s1, s2, s3, s4⟩ := (HG.new n).set (v := at_) (by simpa [newH] using ha) (gt0 d at_)
  have hkey := key_set (h := newH n) (v := at_) (by simpa [newH] using ha) s3
  have hp : ∀ v, v < n → (newH n).place v = -1 := fun v hv => getD_rep _ _ _ _ hv
  have hgb : ∀ v, v < n → gtb (List.replicate n false) v = false := fun v hv => getD_rep _ _ _ _ hv
  refine ⟨s1, by rw [s2]; simp [newH], by simp, fun v hv hq => ?_, fun v hv hg => ?_, fun v hv hva h1 _ => ?_, fun x => ?_, List.nodup_nil⟩
  · rw [hkey]
    rcases (s4 v).1 hq with rfl | h1
    · rw [if_pos rfl]; exact ⟨hne, h0, rfl, hgb _ hv⟩
    · rw [hp v hv] at h1; omega
  · rw [hgb v hv] at hg; cases hg
  · by_cases e : v = at_
    · exact .inl ((s4 v).2 (.inl e))
    · obtain ⟨ed, e1, e2, e3, e4⟩ := hs v hv hva e h1
      have := p.f ed e1
      exact .inr ⟨ed, e1, e2, e3, e4, .inl (hgb _ (by omega))⟩
  · constructor
    · intro h; cases h
    · rintro ⟨h1, h2, h3⟩
      rw [hgb _ (by omega)] at h3; cases h3
open Go Go.RT
abbrev topB : Int := 8454015
theorem newH_place {n v : Nat} (hv : v < n) : (newH n).place v = -1 := getD_rep _ _ _ _ hv
/-- a change that no shortest path can meet -/
theorem step_far {es es' : List Edg} {r n a : Nat} {d : List Int} {c : Edg} {old : Int} (R : ChRel es es' c old) (vg : VG es r n) (h : Fx es n a d) (hc : gt0 d c.f.toNat < 0 ∨ c.t = (a : Int)) : Fx es' n a d := by
  refine ⟨h.root, fun e he h0 => ?_, fun v hv hne h0 => ?_, h.neg⟩
  · by_cases hk : e.f = c.f ∧ e.t = c.t
    · rcases hc with hc | hc
      · rw [hk.1] at h0; omega
      · rw [hk.2, hc, Int.toNat_natCast, h.root]
        by_cases h1 : 0 ≤ e.c
        · omega
        · have := (R.one e he hk); omega
    · exact h.fix e (R.out e he hk) h0
  · obtain ⟨e, he, ht, hf, hs⟩ := h.sup v hv hne h0
    refine ⟨e, R.ins e he fun hk => ?_, ht, hf, hs⟩
    rcases hc with hc | hc
    · rw [hk.1] at hf; omega
    · omega
/-- a change that changes no distance -/
theorem step_no {es es' : List Edg} {r n a : Nat} {d : List Int} {c : Edg} {old : Int} (R : ChRel es es' c old) (vg : VG es r n) (h : Fx es n a d) (hf0 : 0 ≤ gt0 d c.f.toNat)
    (h1 : ¬ (0 ≤ c.c ∧ (gt0 d c.t.toNat < 0 ∨ gt0 d c.f.toNat + c.c < gt0 d c.t.toNat))) (h2 : ¬ ((0 ≤ old ∧ gt0 d c.f.toNat + old = gt0 d c.t.toNat) ∧ (c.c < 0 ∨ old < c.c))) : Fx es' n a d := by
  refine ⟨h.root, fun e he h0 => ?_, fun v hv hne h0 => ?_, h.neg⟩
  · by_cases hk : e.f = c.f ∧ e.t = c.t
    · have := R.one e he hk
      rw [hk.1, hk.2]; omega
    · exact h.fix e (R.out e he hk) h0
  · obtain ⟨e, he, ht, hf, hs⟩ := h.sup v hv hne h0
    by_cases hk : e.f = c.f ∧ e.t = c.t
    · have e1 := R.was e he hk
      have e2 := vg.c e he
      rw [hk.1] at hf hs
      have e3 : c.t.toNat = v := by omega
      rw [e3] at h1 h2
      refine ⟨c, R.new (by omega), by omega, hf, ?_⟩
      omega
    · exact ⟨e, R.ins e he hk, ht, hf, hs⟩
/-- a way that is shorter now -/
theorem step_less {es es' : List Edg} {r n a : Nat} {d : List Int} {c : Edg} {old : Int} (R : ChRel es es' c old) (vg : VG es r n) (vg' : VG es' r n) (dl : d.length = n) (hb : ∀ v, v < n → gt0 d v ≤ 8388480) (h : Fx es n a d) (hcn : c.t.toNat < n ∧ 0 ≤ c.t) (hf0 : 0 ≤ gt0 d c.f.toNat) (hcf : c.f.toNat < n) (hta : c.t ≠ (a : Int))
    (h0 : 0 ≤ c.c) (h1 : gt0 d c.t.toNat < 0 ∨ gt0 d c.f.toNat + c.c < gt0 d c.t.toNat) : SJ es' n a topB d (setH (newH n) c.t.toNat (gt0 d c.f.toNat + c.c)) [] 0 [] := by
  obtain ⟨s1, s2, s3, s4⟩ := (HG.new n).set (v := c.t.toNat) (by simpa [newH] using hcn.1) (gt0 d c.f.toNat + c.c)
  have hkey := key_set (h := newH n) (v := c.t.toNat) (by simpa [newH] using hcn.1) s3
  have hcm := R.new h0
  have hcc := vg'.c c hcm
  have hin : 0 ≤ (setH (newH n) c.t.toNat (gt0 d c.f.toNat + c.c)).place c.t.toNat := (s4 _).2 (.inl rfl)
  refine ⟨s1, by rw [s2]; simp [newH], dl, h.root, h.neg, fun v hv hva hv0 => ?_, fun v hv hp => ?_, fun e he hf => ?_, by simp, by simp, by simp, fun v hv => ?_, by decide⟩
  · obtain ⟨e, he, ht, hf, hs⟩ := h.sup v hv hva hv0
    by_cases hk : e.f = c.f ∧ e.t = c.t
    · have : v = c.t.toNat := by omega
      rw [this]; exact .inl hin
    · exact .inr ⟨e, R.ins e he hk, ht, hf, by omega⟩
  · rcases (s4 v).1 hp with rfl | h2
    · have := hb _ hcf
      rw [hkey, if_pos rfl]
      exact ⟨by omega, by omega, h1, by omega, by simp only [List.length_nil, topB]; omega, by simp, c, hcm, by omega, hf0, by omega⟩
    · rw [newH_place hv] at h2; omega
  · by_cases hk : e.f = c.f ∧ e.t = c.t
    · have := R.one e he hk
      refine .inr (.inr ?_)
      rw [hk.1, hk.2, hkey, if_pos rfl]
      exact ⟨hin, by omega⟩
    · exact .inr (.inl (h.fix e (R.out e he hk) hf))
  · have := hb v hv
    simp only [List.length_nil, topB]; omega
/- a way that is longer now -/
def negL (d : List Int) (L : List Int) : List Int := L.foldl (fun d x => d.set x.toNat (-1)) d
theorem negL_len : ∀ (L d : List Int), (negL d L).length = d.length
  | [], d => rfl
  | x :: L, d => by
    show (negL (d.set x.toNat (-1)) L).length = _
    rw [negL_len L, List.length_set]
theorem negL_get {n : Nat} : ∀ (L d : List Int), d.length = n → (∀ x ∈ L, 0 ≤ x ∧ x < n) → ∀ v, gt0 (negL d L) v = if (v : Int) ∈ L then -1 else gt0 d v
  | [], d, _, _, v => by simp [negL]
  | x :: L, d, hl, hx, v => by
    have h0 := hx x (by simp)
    show gt0 (negL (d.set x.toNat (-1)) L) v = _
    rw [negL_get L _ (by rw [List.length_set]; exact hl) (fun y hy => hx y (by simp [hy])) v]
    have hg : gt0 (d.set x.toNat (-1)) v = if x.toNat = v then -1 else gt0 d v := getD_set _ _ _ _ _ (by omega)
    rw [hg]
    by_cases h1 : (v : Int) ∈ L
    · rw [if_pos h1, if_pos (by simp [h1])]
    · rw [if_neg h1]
      by_cases h2 : x.toNat = v
      · rw [if_pos h2, if_pos (by rw [List.mem_cons]; left; omega)]
      · rw [if_neg h2, if_neg (fun h => by
          rcases List.mem_cons.1 h with h | h
          · omega
          · exact h1 h)]
def qE (d : List Int) (v : Nat) (h : Hq) (e : Edg) : Hq := if 0 ≤ gt0 d e.f.toNat ∧ (h.place v < 0 ∨ gt0 d e.f.toNat + e.c < h.key v) then setH h v (gt0 d e.f.toNat + e.c) else h
def qV (es : List Edg) (d : List Int) (h : Hq) (x : Int) : Hq := (inE es x.toNat).foldl (qE d x.toNat) h
structure QJ (es : List Edg) (n : Nat) (d : List Int) (L : List Int) (h : Hq) (todo : List Edg) (rest : List Int) : Prop where
  hg : HG h
  hl : h.pl.length = n
  q : ∀ v, v < n → 0 ≤ h.place v → (v : Int) ∈ L ∧ ∃ e ∈ es, e.t = (v : Int) ∧ 0 ≤ gt0 d e.f.toNat ∧ gt0 d e.f.toNat + e.c = h.key v
  rel : ∀ e ∈ es, e.t ∈ L → 0 ≤ gt0 d e.f.toNat → e ∈ todo ∨ e.t ∈ rest ∨ (0 ≤ h.place e.t.toNat ∧ h.key e.t.toNat ≤ gt0 d e.f.toNat + e.c)
theorem QJ.step {es : List Edg} {n v : Nat} {d L : List Int} {h : Hq} {e : Edg} {todo : List Edg} {rest : List Int} (he : e ∈ es) (het : e.t = (v : Int)) (hv : v < n) (hvL : (v : Int) ∈ L) (o : QJ es n d L h (e :: todo) rest) : QJ es n d L (qE d v h e) todo rest := by
  unfold qE
  by_cases hc : 0 ≤ gt0 d e.f.toNat ∧ (h.place v < 0 ∨ gt0 d e.f.toNat + e.c < h.key v)
  · rw [if_pos hc]
    have htl : v < h.pl.length := by rw [o.hl]; omega
    obtain ⟨s1, s2, s3, s4⟩ := o.hg.set htl (gt0 d e.f.toNat + e.c)
    have hkey := key_set (by rw [← o.hg.hi.ok.len]; exact htl) s3
    refine ⟨s1, by rw [s2, o.hl], fun w hw hp => ?_, fun e' he' hL h0 => ?_⟩
    · rw [hkey]
      by_cases e1 : v = w
      · subst e1; rw [if_pos rfl]; exact ⟨hvL, e, he, het, hc.1, rfl⟩
      · rw [if_neg e1]
        rcases (s4 w).1 hp with h1 | h1
        · exact absurd h1.symm e1
        · exact o.q w hw h1
    · rcases o.rel e' he' hL h0 with h3 | h3 | ⟨h3, h4⟩
      · rcases List.mem_cons.1 h3 with rfl | h3
        · refine .inr (.inr ?_)
          rw [het, Int.toNat_natCast, hkey, if_pos rfl]
          exact ⟨(s4 _).2 (.inl rfl), Int.le_refl _⟩
        · exact .inl h3
      · exact .inr (.inl h3)
      · refine .inr (.inr ⟨(s4 _).2 (.inr h3), ?_⟩)
        rw [hkey]
        by_cases e1 : v = e'.t.toNat
        · rw [if_pos e1]
          rw [← e1] at h3 h4
          rcases hc.2 with h5 | h5
          · omega
          · omega
        · rw [if_neg e1]; exact h4
  · rw [if_neg hc]
    refine ⟨o.hg, o.hl, o.q, fun e' he' hL h0 => ?_⟩
    rcases o.rel e' he' hL h0 with h3 | h3
    · rcases List.mem_cons.1 h3 with rfl | h3
      · refine .inr (.inr ?_)
        rw [het, Int.toNat_natCast]
        have : ¬ (h.place v < 0 ∨ gt0 d e'.f.toNat + e'.c < h.key v) := fun h5 => hc ⟨h0, h5⟩
        omega
      · exact .inl h3
    · exact .inr h3
theorem QJ.row {es : List Edg} {n v : Nat} {d L : List Int} {rest : List Int} (hv : v < n) (hvL : (v : Int) ∈ L) : ∀ (todo : List Edg) {h : Hq}, (∀ e ∈ todo, e ∈ es ∧ e.t = (v : Int)) → QJ es n d L h todo rest → QJ es n d L (todo.foldl (qE d v) h) [] rest
  | [], h, _, o => o
  | e :: todo, h, ht, o => QJ.row hv hvL todo (fun e' h' => ht e' (by simp [h'])) (o.step (ht e (by simp)).1 (ht e (by simp)).2 hv hvL)
theorem QJ.node {es : List Edg} {n : Nat} {d L : List Int} {x : Int} {rest : List Int} (hx : 0 ≤ x ∧ x < n) (hxL : x ∈ L) {h : Hq} (o : QJ es n d L h [] (x :: rest)) : QJ es n d L h (inE es x.toNat) rest ∧ QJ es n d L (qV es d h x) [] rest := by
  have ex : ((x.toNat : Nat) : Int) = x := by omega
  have h1 : QJ es n d L h (inE es x.toNat) rest := ⟨o.hg, o.hl, o.q, fun e he hL h0 => by
    rcases o.rel e he hL h0 with h3 | h3 | h3
    · cases h3
    · rcases List.mem_cons.1 h3 with h3 | h3
      · exact .inl (List.mem_filter.2 ⟨he, by rw [decide_eq_true_eq]; omega⟩)
      · exact .inr (.inl h3)
    · exact .inr (.inr h3)⟩
  refine ⟨h1, ?_⟩
  unfold qV
  exact QJ.row (by omega) (by rw [ex]; exact hxL) _ (fun e he => by simpa [inE] using he) h1
theorem QJ.all {es : List Edg} {n : Nat} {d L : List Int} : ∀ (rest : List Int) {h : Hq}, (∀ x ∈ rest, 0 ≤ x ∧ x < n ∧ x ∈ L) → QJ es n d L h [] rest → QJ es n d L (rest.foldl (qV es d) h) [] []
  | [], h, _, o => o
  | x :: rest, h, hr, o => QJ.all rest (fun y hy => hr y (by simp [hy])) (o.node ⟨(hr x (by simp)).1, (hr x (by simp)).2.1⟩ (hr x (by simp)).2.2).2
theorem QJ.start (es : List Edg) (n : Nat) (d L : List Int) (hL : ∀ x ∈ L, 0 ≤ x ∧ x < n) : QJ es n d L (newH n) [] L :=
  ⟨HG.new n, by simp [newH], fun v hv hp => by rw [newH_place hv] at hp; omega, fun e _ hL' _ => .inr (.inl hL')⟩
theorem dp_of {es es' : List Edg} {r n a : Nat} {d : List Int} (har : a < r) (vg : VG es r n) (vg' : VG es' r n) (dl : d.length = n) (h : Fx es n a d) : DP es' n a d :=
  ⟨vg'.f, vg'.t, vg'.c, vg'.ne, dl, h.root, fun _ hv hne h0 => h.pos vg har hv hne h0⟩
theorem step_more {es es' : List Edg} {r n a : Nat} {d : List Int} {c : Edg} {old : Int} (har : a < r) (R : ChRel es es' c old) (vg : VG es r n) (vg' : VG es' r n) (dl : d.length = n) (h : Fx es n a d) (hcn : c.t.toNat < n ∧ 0 ≤ c.t) (hf0 : 0 ≤ gt0 d c.f.toNat) (hta : c.t ≠ (a : Int))
    (h0 : 0 ≤ old) (h1 : gt0 d c.f.toNat + old = gt0 d c.t.toNat) : LJ es' n a d (List.replicate n false) [] (setH (newH n) c.t.toNat (gt0 d c.t.toNat)) [] :=
  LJ.start (dp_of har vg vg' dl h) hcn.1 (by omega) (by omega) fun v hv hva hvt hv0 => by
    obtain ⟨e, he, ht, hf, hs⟩ := h.sup v hv hva hv0
    exact ⟨e, R.ins e he (fun hk => hvt (by omega)), ht, hf, hs⟩
theorem step_queue {es es' : List Edg} {r n a : Nat} {d : List Int} {c : Edg} {old : Int} {L : List Int} (har : a < r) (ha : a < n) (R : ChRel es es' c old) (vg : VG es r n) (vg' : VG es' r n) (dl : d.length = n) (hb : ∀ v, v < n → gt0 d v ≤ 8388480) (h : Fx es n a d)
    (h2 : c.c < 0 ∨ old < c.c) (h3 : gt0 d c.f.toNat + old = gt0 d c.t.toNat) (h4 : 0 ≤ old) (hL : LostOk es' n a d L) : SJ es' n a topB (negL d L) (L.foldl (qV es' (negL d L)) (newH n)) [] 0 [] := by
  obtain ⟨l1, l2, l3⟩ := hL
  have hLn : ∀ x ∈ L, 0 ≤ x ∧ x < n := fun x hx => ⟨(l2 x hx).1, (l2 x hx).2.1⟩
  have o := QJ.all L (fun x hx => ⟨(l2 x hx).1, (l2 x hx).2.1, hx⟩) (QJ.start es' n (negL d L) L hLn)
  have hget := fun v => negL_get L d dl hLn v
  have hnot : ∀ e : Edg, 0 ≤ e.f → 0 ≤ gt0 (negL d L) e.f.toNat → e.f ∉ L ∧ gt0 (negL d L) e.f.toNat = gt0 d e.f.toNat := fun e he h0 => by
    rw [hget] at h0 ⊢
    have e1 : ((e.f.toNat : Nat) : Int) = e.f := by omega
    rw [e1] at h0 ⊢
    by_cases hm : e.f ∈ L
    · rw [if_pos hm] at h0; omega
    · rw [if_neg hm]; exact ⟨hm, rfl⟩
  have haL : (a : Int) ∉ L := fun hm => (l2 _ hm).2.2.1 rfl
  have hin : ∀ v : Nat, (v : Int) ∉ L → gt0 (negL d L) v = gt0 d v := fun v hv => by rw [hget, if_neg hv]
  refine ⟨o.hg, o.hl, by rw [negL_len, dl], by rw [hin a haL, h.root], fun v hv hv0 => ?_, fun v hv hva hv0 => ?_, fun v hv hp => ?_, fun e he hf => ?_, by simp, by simp, by simp, fun v hv => ?_, by decide⟩
  · rw [hget] at hv0 ⊢
    by_cases hm : (v : Int) ∈ L
    · rw [if_pos hm]
    · rw [if_neg hm] at hv0 ⊢; exact h.neg v hv hv0
  · have hm : (v : Int) ∉ L := fun hm => by rw [hget, if_pos hm] at hv0; omega
    rw [hin v hm] at hv0 ⊢
    obtain ⟨e, he, ht, hf, hs, hfL⟩ := l3 v hv hva hv0 hm
    have hef := vg'.f e he
    refine .inr ⟨e, he, ht, ?_⟩
    rw [hin _ (by rw [show ((e.f.toNat : Nat) : Int) = e.f by omega]; exact hfL)]
    exact ⟨hf, by omega⟩
  · obtain ⟨q1, e, he, ht, hf, hs⟩ := o.q v hv hp
    have hef := vg'.f e he
    have hec := vg'.c e he
    obtain ⟨n1, n2⟩ := hnot e hef.1 hf
    have hb1 := hb e.f.toNat (by omega)
    rw [← hs, hget v, if_pos q1]
    exact ⟨fun e2 => haL (by rw [← e2]; exact q1), by omega, .inl (by decide), by omega, by simp only [List.length_nil, topB]; omega, by simp, e, he, ht, hf, by omega⟩
  · have hef := vg'.f e he
    have het := vg'.t e he
    have hec := vg'.c e he
    obtain ⟨n1, n2⟩ := hnot e hef.1 hf
    by_cases hm : e.t ∈ L
    · rcases o.rel e he hm hf with h5 | h5 | h5
      · cases h5
      · cases h5
      · exact .inr (.inr h5)
    · refine .inr (.inl ?_)
      rw [n2] at hf ⊢
      rw [hin _ (by rw [show ((e.t.toNat : Nat) : Int) = e.t by omega]; exact hm)]
      by_cases hk : e.f = c.f ∧ e.t = c.t
      · have := R.one e he hk
        rw [hk.1] at hf ⊢
        rw [hk.2]; omega
      · exact h.fix e (R.out e he hk) hf
  · rw [hget]
    simp only [List.length_nil, topB]
    split
    · omega
    · have := hb v hv; omega
end Go.Pl
/- Stable merging and sorting of lists: no program in sight. -/
namespace Go.Pl
set_option linter.all false
variable {α : Type}
/-- a strict weak order -/
structure SWk (lt : α → α → Bool) : Prop where
  asy : ∀ x y, lt x y = true → lt y x = false
  tr : ∀ x y z, lt y x = false → lt z y = false → lt z x = false
def mrg (lt : α → α → Bool) : List α → List α → List α
  | [], B => B
  | x :: A, [] => x :: A
  | x :: A, y :: B => if lt y x = true then y :: mrg lt (x :: A) B else x :: mrg lt A (y :: B)
termination_by A B => A.length + B.length
variable {lt : α → α → Bool}
theorem mrg_nil_left (B : List α) : mrg lt [] B = B := by simp [mrg]
theorem mrg_nil (A : List α) : mrg lt A [] = A := by cases A <;> simp [mrg]
theorem mrg_cut : ∀ (k : Nat) (A1 B1 A2 B2 : List α), A1.length + B1.length ≤ k → (∀ b ∈ B1, ∀ a ∈ A2, lt b a = true) → (∀ a ∈ A1, ∀ b ∈ B2, lt b a = false) →
    mrg lt (A1 ++ A2) (B1 ++ B2) = mrg lt A1 B1 ++ mrg lt A2 B2
  | k, [], [], A2, B2, _, _, _ => by simp [mrg]
  | k, [], y :: B1, A2, B2, hk, h1, h2 => by
    cases A2 with
    | nil => simp [mrg_nil_left]
    | cons x A2 =>
      cases k with
      | zero => simp at hk
      | succ k =>
        have := mrg_cut k [] B1 (x :: A2) B2 (by simp at hk ⊢; omega) (fun b hb => h1 b (by simp [hb])) (fun a ha => by cases ha)
        simp only [List.nil_append, List.cons_append, mrg_nil_left] at this ⊢
        rw [mrg, if_pos (h1 y (by simp) x (by simp)), this]
  | k, x :: A1, [], A2, B2, hk, h1, h2 => by
    cases B2 with
    | nil => simp [mrg_nil]
    | cons y B2 =>
      cases k with
      | zero => simp at hk
      | succ k =>
        have := mrg_cut k A1 [] A2 (y :: B2) (by simp at hk ⊢; omega) (fun b hb => by cases hb) (fun a ha => h2 a (by simp [ha]))
        simp only [List.nil_append, List.cons_append, mrg_nil] at this ⊢
        rw [mrg, if_neg (by rw [h2 x (by simp) y (by simp)]; simp), this]
  | k, x :: A1, y :: B1, A2, B2, hk, h1, h2 => by
    cases k with
    | zero => simp at hk
    | succ k =>
      simp only [List.cons_append]
      rw [mrg, mrg]
      by_cases h : lt y x = true
      · rw [if_pos h, if_pos h]
        have := mrg_cut k (x :: A1) B1 A2 B2 (by simp at hk ⊢; omega) (fun b hb => h1 b (by simp [hb])) h2
        rw [List.cons_append] at this
        rw [this]; rfl
      · rw [if_neg h, if_neg h]
        have := mrg_cut k A1 (y :: B1) A2 B2 (by simp at hk ⊢; omega) h1 (fun a ha => h2 a (by simp [ha]))
        rw [List.cons_append] at this
        rw [this]; rfl
theorem mrg_split {A1 B1 A2 B2 : List α} (h1 : ∀ b ∈ B1, ∀ a ∈ A2, lt b a = true) (h2 : ∀ a ∈ A1, ∀ b ∈ B2, lt b a = false) : mrg lt (A1 ++ A2) (B1 ++ B2) = mrg lt A1 B1 ++ mrg lt A2 B2 := mrg_cut _ A1 B1 A2 B2 (Nat.le_refl _) h1 h2
theorem mrg_left {x : α} {B1 B2 : List α} (h1 : ∀ b ∈ B1, lt b x = true) (h2 : ∀ b ∈ B2, lt b x = false) : mrg lt [x] (B1 ++ B2) = B1 ++ x :: B2 := by
  have e1 := mrg_split (lt := lt) (A1 := []) (A2 := [x]) (B1 := B1) (B2 := B2) (fun b hb a ha => by rw [List.mem_singleton.1 ha]; exact h1 b hb) (fun a ha => by cases ha)
  have e2 := mrg_split (lt := lt) (A1 := [x]) (A2 := []) (B1 := []) (B2 := B2) (fun b hb => by cases hb) (fun a ha b hb => by rw [List.mem_singleton.1 ha]; exact h2 b hb)
  simp only [List.nil_append, List.append_nil, mrg_nil_left, mrg_nil] at e1 e2
  rw [e1, e2]; rfl
theorem mrg_right {y : α} {A1 A2 : List α} (h1 : ∀ a ∈ A1, lt y a = false) (h2 : ∀ a ∈ A2, lt y a = true) : mrg lt (A1 ++ A2) [y] = A1 ++ y :: A2 := by
  have e1 := mrg_split (lt := lt) (A1 := A1) (A2 := A2) (B1 := []) (B2 := [y]) (fun b hb => by cases hb) (fun a ha b hb => by rw [List.mem_singleton.1 hb]; exact h1 a ha)
  have e2 := mrg_split (lt := lt) (A1 := []) (A2 := A2) (B1 := [y]) (B2 := []) (fun b hb a ha => by rw [List.mem_singleton.1 hb]; exact h2 a ha) (fun a ha => by cases ha)
  simp only [List.nil_append, List.append_nil, mrg_nil_left, mrg_nil] at e1 e2
  rw [e1, e2]; rfl
theorem mrg_mem : ∀ (k : Nat) (A B : List α), A.length + B.length ≤ k → ∀ x, x ∈ mrg lt A B ↔ x ∈ A ∨ x ∈ B
  | k, [], B, _, x => by simp [mrg_nil_left]
  | k, a :: A, [], _, x => by simp [mrg_nil]
  | 0, a :: A, b :: B, h, x => by simp at h
  | k + 1, a :: A, b :: B, h, x => by
    rw [mrg]
    split
    · rw [List.mem_cons, mrg_mem k (a :: A) B (by simp at h ⊢; omega)]
      simp; constructor
      · rintro (h | (h | h) | h) <;> simp [h]
      · rintro ((h | h) | h | h) <;> simp [h]
    · rw [List.mem_cons, mrg_mem k A (b :: B) (by simp at h ⊢; omega)]
      simp; constructor
      · rintro (h | h | h | h) <;> simp [h]
      · rintro ((h | h) | h | h) <;> simp [h]
theorem mrg_len : ∀ (k : Nat) (A B : List α), A.length + B.length ≤ k → (mrg lt A B).length = A.length + B.length
  | k, [], B, _ => by simp [mrg_nil_left]
  | k, a :: A, [], _ => by simp [mrg_nil]
  | 0, a :: A, b :: B, h => by simp at h
  | k + 1, a :: A, b :: B, h => by
    rw [mrg]
    split
    · rw [List.length_cons, mrg_len k (a :: A) B (by simp at h ⊢; omega)]; simp; omega
    · rw [List.length_cons, mrg_len k A (b :: B) (by simp at h ⊢; omega)]; simp; omega
abbrev Srt (lt : α → α → Bool) (l : List α) : Prop := l.Pairwise fun x y => lt y x = false
theorem mrg_srt (o : SWk lt) : ∀ (k : Nat) (A B : List α), A.length + B.length ≤ k → Srt lt A → Srt lt B → Srt lt (mrg lt A B)
  | k, [], B, _, _, h => by rw [mrg_nil_left]; exact h
  | k, a :: A, [], _, h, _ => by rw [mrg_nil]; exact h
  | 0, a :: A, b :: B, h, _, _ => by simp at h
  | k + 1, a :: A, b :: B, h, hA, hB => by
    obtain ⟨a1, a2⟩ := List.pairwise_cons.1 hA
    obtain ⟨b1, b2⟩ := List.pairwise_cons.1 hB
    rw [mrg]
    split
    · rename_i hlt
      refine List.pairwise_cons.2 ⟨fun x hx => ?_, mrg_srt o k (a :: A) B (by simp at h ⊢; omega) hA b2⟩
      rcases (mrg_mem _ _ _ (Nat.le_refl _) x).1 hx with hx | hx
      · rcases List.mem_cons.1 hx with rfl | hx
        · exact o.asy _ _ hlt
        · exact o.tr b a x (o.asy _ _ hlt) (a1 x hx)
      · exact b1 x hx
    · rename_i hlt
      have hlt' : lt b a = false := by simpa using hlt
      refine List.pairwise_cons.2 ⟨fun x hx => ?_, mrg_srt o k A (b :: B) (by simp at h ⊢; omega) a2 hB⟩
      rcases (mrg_mem _ _ _ (Nat.le_refl _) x).1 hx with hx | hx
      · exact a1 x hx
      · rcases List.mem_cons.1 hx with rfl | hx
        · exact hlt'
        · exact o.tr a b x hlt' (b1 x hx)
/-- a sorted list, parted by what stands behind y -/
theorem srt_part (o : SWk lt) (y : α) : ∀ {l : List α}, Srt lt l → ∃ l1 l2, l = l1 ++ l2 ∧ (∀ x ∈ l1, lt y x = false) ∧ ∀ x ∈ l2, lt y x = true
  | [], _ => ⟨[], [], rfl, by simp, by simp⟩
  | x :: l, h => by
    obtain ⟨h1, h2⟩ := List.pairwise_cons.1 h
    by_cases hx : lt y x = true
    · refine ⟨[], x :: l, rfl, by simp, fun z hz => ?_⟩
      rcases List.mem_cons.1 hz with rfl | hz
      · exact hx
      · cases hc : lt y z with
        | true => rfl
        | false =>
          have := o.tr x z y (h1 z hz) hc
          rw [hx] at this; cases this
    · obtain ⟨l1, l2, e, h3, h4⟩ := srt_part o y h2
      refine ⟨x :: l1, l2, by rw [e]; rfl, fun z hz => ?_, h4⟩
      rcases List.mem_cons.1 hz with rfl | hz
      · simpa using hx
      · exact h3 z hz
theorem lt_of {o : SWk lt} {b y a : α} (h1 : lt y b = false) (h2 : lt y a = true) : lt b a = true := by
  cases hc : lt b a with
  | true => rfl
  | false =>
    have := o.tr a b y hc h1
    rw [h2] at this; cases this
theorem mrg_assoc1 (o : SWk lt) {A B : List α} (hA : Srt lt A) (hB : Srt lt B) (y : α) : mrg lt (mrg lt A B) [y] = mrg lt A (mrg lt B [y]) := by
  obtain ⟨A1, A2, rfl, a1, a2⟩ := srt_part o y hA
  obtain ⟨B1, B2, rfl, b1, b2⟩ := srt_part o y hB
  have e1 : mrg lt (A1 ++ A2) (B1 ++ B2) = mrg lt A1 B1 ++ mrg lt A2 B2 := mrg_split (fun b hb a ha => lt_of (o := o) (b1 b hb) (a2 a ha)) (fun a ha b hb => o.asy _ _ (lt_of (o := o) (a1 a ha) (b2 b hb)))
  rw [e1, mrg_right (fun x hx => ?_) (fun x hx => ?_), mrg_right b1 b2]
  · have e2 : mrg lt (A1 ++ A2) (B1 ++ y :: B2) = mrg lt A1 B1 ++ mrg lt A2 (y :: B2) := mrg_split (fun b hb a ha => lt_of (o := o) (b1 b hb) (a2 a ha)) (fun a ha b hb => by
      rcases List.mem_cons.1 hb with rfl | hb
      · exact a1 a ha
      · exact o.asy _ _ (lt_of (o := o) (a1 a ha) (b2 b hb)))
    have e3 := mrg_split (lt := lt) (A1 := []) (A2 := A2) (B1 := [y]) (B2 := B2) (fun b hb a ha => by rw [List.mem_singleton.1 hb]; exact a2 a ha) (fun a ha => by cases ha)
    simp only [List.nil_append, mrg_nil_left] at e3
    rw [e2, show y :: B2 = [y] ++ B2 from rfl, e3]; rfl
  · rcases (mrg_mem _ _ _ (Nat.le_refl _) x).1 hx with h | h
    · exact a1 x h
    · exact b1 x h
  · rcases (mrg_mem _ _ _ (Nat.le_refl _) x).1 hx with h | h
    · exact a2 x h
    · exact b2 x h
/-- the stable sort: one after the other, behind all that do not stand behind it -/
def srtS (lt : α → α → Bool) (l : List α) : List α := l.foldl (fun acc y => mrg lt acc [y]) []
theorem srtS_snoc (l : List α) (y : α) : srtS lt (l ++ [y]) = mrg lt (srtS lt l) [y] := by unfold srtS; rw [List.foldl_append]; rfl
theorem rev_ind {P : List α → Prop} (h0 : P []) (h1 : ∀ l y, P l → P (l ++ [y])) : ∀ l, P l := fun l => by
  have : ∀ (k : Nat) (l : List α), l.length = k → P l := fun k => by
    induction k with
    | zero => intro l h; rw [List.length_eq_zero_iff.1 h]; exact h0
    | succ k ih =>
      intro l h
      have hne : l ≠ [] := fun e => by rw [e] at h; cases h
      rw [← List.dropLast_concat_getLast hne]
      exact h1 _ _ (ih _ (by rw [List.length_dropLast, h]; rfl))
  exact this _ l rfl
theorem srtS_srt (o : SWk lt) : ∀ l, Srt lt (srtS lt l) := rev_ind List.Pairwise.nil fun l y ih => by
  rw [srtS_snoc]; exact mrg_srt o _ _ _ (Nat.le_refl _) ih (by simp)
theorem srtS_len : ∀ l : List α, (srtS lt l).length = l.length := rev_ind rfl fun l y ih => by
  rw [srtS_snoc, mrg_len _ _ _ (Nat.le_refl _), ih]; simp
theorem srtS_app (o : SWk lt) (X : List α) : ∀ Y, srtS lt (X ++ Y) = mrg lt (srtS lt X) (srtS lt Y) := rev_ind (by simp [srtS, mrg_nil]) fun l y ih => by
  rw [← List.append_assoc, srtS_snoc, ih, srtS_snoc, mrg_assoc1 o (srtS_srt o _) (srtS_srt o _)]
end Go.Pl
/- Symmetric merging: where both lists are cut; one element merged by a search. -/
namespace Go.Pl
set_option linter.all false
variable {α : Type} {lt : α → α → Bool}
theorem SWk.rf (o : SWk lt) (x : α) : lt x x = false := by
  cases h : lt x x with
  | false => rfl
  | true => rw [o.asy x x h] at h; cases h
theorem srt_le (o : SWk lt) {l : List α} (h : Srt lt l) {i j : Nat} (hj : j < l.length) (hij : i ≤ j) : lt l[j] (l[i]'(by omega)) = false := by
  rcases Nat.lt_or_ge i j with h1 | h1
  · exact List.pairwise_iff_getElem.1 h i j (by omega) hj h1
  · have : i = j := by omega
    subst this; exact o.rf _
theorem SWk.tr2 (o : SWk lt) {x y z : α} (h1 : lt y x = false) (h2 : lt y z = true) : lt x z = true := by
  cases hc : lt x z with
  | true => rfl
  | false =>
    have := o.tr z x y hc h1
    rw [h2] at this; cases this
theorem SWk.tr3 (o : SWk lt) {x y z : α} (h1 : lt x y = true) (h2 : lt z y = false) : lt x z = true := by
  cases hc : lt x z with
  | true => rfl
  | false =>
    have := o.tr y z x h2 hc
    rw [h1] at this; cases this
theorem sym_cut (o : SWk lt) {A B : List α} (hA : Srt lt A) (hB : Srt lt B) {S T : Nat} (hS : S ≤ A.length) (hT : T ≤ B.length)
    (h1 : ∀ (k1 : 0 < S) (k2 : T < B.length), lt B[T] (A[S - 1]'(by omega)) = false) (h2 : ∀ (k1 : S < A.length) (k2 : 0 < T), lt (B[T - 1]'(by omega)) A[S] = true) :
    mrg lt A B = mrg lt (A.take S) (B.take T) ++ mrg lt (A.drop S) (B.drop T) := by
  rw [← mrg_split (fun b hb a ha => ?_) (fun a ha b hb => ?_), List.take_append_drop, List.take_append_drop]
  · obtain ⟨j, hj, rfl⟩ := List.mem_iff_getElem.1 hb
    obtain ⟨i, hi, rfl⟩ := List.mem_iff_getElem.1 ha
    rw [List.length_take] at hj
    rw [List.length_drop] at hi
    rw [List.getElem_take, List.getElem_drop]
    have e1 := srt_le o hB (i := j) (j := T - 1) (by omega) (by omega)
    have e2 := h2 (by omega) (by omega)
    have e3 := srt_le o hA (i := S) (j := S + i) (by omega) (by omega)
    exact o.tr3 (o.tr2 e1 e2) e3
  · obtain ⟨j, hj, rfl⟩ := List.mem_iff_getElem.1 hb
    obtain ⟨i, hi, rfl⟩ := List.mem_iff_getElem.1 ha
    rw [List.length_take] at hi
    rw [List.length_drop] at hj
    rw [List.getElem_take, List.getElem_drop]
    have e1 := srt_le o hA (i := i) (j := S - 1) (by omega) (by omega)
    have e2 := h1 (by omega) (by omega)
    have e3 := srt_le o hB (i := T) (j := T + j) (by omega) (by omega)
    exact o.tr _ _ _ (o.tr _ _ _ e1 e2) e3
theorem one_left (o : SWk lt) {x : α} {B : List α} (hB : Srt lt B) {T : Nat} (hT : T ≤ B.length) (h1 : ∀ (k : 0 < T), lt (B[T - 1]'(by omega)) x = true) (h2 : ∀ (k : T < B.length), lt B[T] x = false) :
    mrg lt [x] B = B.take T ++ x :: B.drop T := by
  have := mrg_left (lt := lt) (x := x) (B1 := B.take T) (B2 := B.drop T) (fun b hb => ?_) (fun b hb => ?_)
  · rwa [List.take_append_drop] at this
  · obtain ⟨j, hj, rfl⟩ := List.mem_iff_getElem.1 hb
    rw [List.length_take] at hj
    rw [List.getElem_take]
    exact o.tr2 (srt_le o hB (i := j) (j := T - 1) (by omega) (by omega)) (h1 (by omega))
  · obtain ⟨j, hj, rfl⟩ := List.mem_iff_getElem.1 hb
    rw [List.length_drop] at hj
    rw [List.getElem_drop]
    exact o.tr _ _ _ (h2 (by omega)) (srt_le o hB (i := T) (j := T + j) (by omega) (by omega))
theorem one_right (o : SWk lt) {y : α} {A : List α} (hA : Srt lt A) {S : Nat} (hS : S ≤ A.length) (h1 : ∀ (k : 0 < S), lt y (A[S - 1]'(by omega)) = false) (h2 : ∀ (k : S < A.length), lt y A[S] = true) :
    mrg lt A [y] = A.take S ++ y :: A.drop S := by
  have := mrg_right (lt := lt) (y := y) (A1 := A.take S) (A2 := A.drop S) (fun a ha => ?_) (fun a ha => ?_)
  · rwa [List.take_append_drop] at this
  · obtain ⟨i, hi, rfl⟩ := List.mem_iff_getElem.1 ha
    rw [List.length_take] at hi
    rw [List.getElem_take]
    exact o.tr _ _ _ (srt_le o hA (i := i) (j := S - 1) (by omega) (by omega)) (h1 (by omega))
  · obtain ⟨i, hi, rfl⟩ := List.mem_iff_getElem.1 ha
    rw [List.length_drop] at hi
    rw [List.getElem_drop]
    exact o.tr3 (h2 (by omega)) (srt_le o hA (i := S) (j := S + i) (by omega) (by omega))
/- exchanging -/
theorem set_at_len {P R : List α} {u v : α} : (P ++ u :: R).set P.length v = P ++ v :: R := by
  rw [List.set_append_right _ _ (Nat.le_refl _)]; simp
theorem swap_two (P M R : List α) (u v : α) : ((P ++ u :: (M ++ v :: R)).set P.length v).set (P.length + 1 + M.length) u = P ++ v :: (M ++ u :: R) := by
  rw [set_at_len]
  have e : P ++ v :: (M ++ v :: R) = (P ++ v :: M) ++ v :: R := by simp
  rw [e, show P.length + 1 + M.length = (P ++ v :: M).length by simp; omega, set_at_len]
  simp
theorem get_at_len {P R : List α} {u : α} : (P ++ u :: R)[P.length]? = some u := by
  rw [List.getElem?_append_right (Nat.le_refl _)]; simp
end Go.Pl
/- Exchanging two ranges, one pair after the other. -/
namespace Go.Pl
set_option linter.all false
variable {α : Type}
def swI (P U M V R : List α) (i : Nat) : List α := P ++ V.take i ++ (U.drop i ++ (M ++ U.take i ++ (V.drop i ++ R)))
theorem swI_0 (P U M V R : List α) : swI P U M V R 0 = P ++ (U ++ (M ++ (V ++ R))) := by simp [swI]
theorem swI_n {P U M V R : List α} (h : U.length = V.length) : swI P U M V R U.length = P ++ (V ++ (M ++ (U ++ R))) := by
  have : V.take U.length = V := by rw [h]; exact List.take_length
  have h2 : V.drop U.length = [] := by rw [h]; exact List.drop_length
  simp [swI, this, h2, List.drop_length]
theorem swI_form {P U M V R : List α} {i : Nat} (hu : i < U.length) (hv : i < V.length) : swI P U M V R i = (P ++ V.take i) ++ U[i] :: ((U.drop (i + 1) ++ M ++ U.take i) ++ V[i] :: (V.drop (i + 1) ++ R)) := by
  unfold swI
  rw [List.drop_eq_getElem_cons hu, List.drop_eq_getElem_cons hv]
  simp only [List.append_assoc, List.cons_append]
theorem swI_step {P U M V R : List α} {i : Nat} (hu : i < U.length) (hv : i < V.length) :
    ((swI P U M V R i).set (P.length + i) V[i]).set (P.length + U.length + M.length + i) U[i] = swI P U M V R (i + 1) := by
  rw [swI_form hu hv]
  have h := swap_two (P ++ V.take i) (U.drop (i + 1) ++ M ++ U.take i) (V.drop (i + 1) ++ R) U[i] V[i]
  rw [show (P ++ V.take i).length = P.length + i by simp; omega] at h
  rw [show P.length + i + 1 + (U.drop (i + 1) ++ M ++ U.take i).length = P.length + U.length + M.length + i by simp; omega] at h
  rw [h]
  unfold swI
  rw [List.take_succ_eq_append_getElem hu, List.take_succ_eq_append_getElem hv]
  simp only [List.append_assoc, List.cons_append, List.nil_append]
theorem swI_u {P U M V R : List α} {i : Nat} (hu : i < U.length) (hv : i < V.length) : (swI P U M V R i)[P.length + i]? = some U[i] := by
  rw [swI_form hu hv]
  have := get_at_len (P := P ++ V.take i) (R := (U.drop (i + 1) ++ M ++ U.take i) ++ V[i] :: (V.drop (i + 1) ++ R)) (u := U[i])
  rwa [show (P ++ V.take i).length = P.length + i by simp; omega] at this
theorem swI_v {P U M V R : List α} {i : Nat} (hu : i < U.length) (hv : i < V.length) : (swI P U M V R i)[P.length + U.length + M.length + i]? = some V[i] := by
  rw [swI_form hu hv]
  have e : (P ++ V.take i) ++ U[i] :: ((U.drop (i + 1) ++ M ++ U.take i) ++ V[i] :: (V.drop (i + 1) ++ R)) = ((P ++ V.take i) ++ U[i] :: (U.drop (i + 1) ++ M ++ U.take i)) ++ V[i] :: (V.drop (i + 1) ++ R) := by simp
  rw [e]
  have := get_at_len (P := (P ++ V.take i) ++ U[i] :: (U.drop (i + 1) ++ M ++ U.take i)) (R := V.drop (i + 1) ++ R) (u := V[i])
  rwa [show ((P ++ V.take i) ++ U[i] :: (U.drop (i + 1) ++ M ++ U.take i)).length = P.length + U.length + M.length + i by simp; omega] at this
end Go.Pl
/- Blocks: every full block of a list in its stable order; insertion from the right. -/
namespace Go.Pl
set_option linter.all false
variable {α : Type}
abbrev ltS (c : α → α → Int) (x y : α) : Bool := decide (c x y < 0)
def bsF (lt : α → α → Bool) (w : Nat) : Nat → List α → List α
  | 0, l => srtS lt l
  | k + 1, l => if l.length ≤ w then srtS lt l else srtS lt (l.take w) ++ bsF lt w k (l.drop w)
def bsL (lt : α → α → Bool) (w : Nat) (l : List α) : List α := bsF lt w l.length l
variable {lt : α → α → Bool}
theorem bsF_more (w : Nat) (hw : 0 < w) : ∀ (k k' : Nat) (l : List α), l.length ≤ k → l.length ≤ k' → bsF lt w k l = bsF lt w k' l
  | 0, 0, l, _, _ => rfl
  | 0, k' + 1, l, h, _ => by
    have : l = [] := List.length_eq_zero_iff.1 (by omega)
    subst this; simp [bsF]
  | k + 1, 0, l, _, h => by
    have : l = [] := List.length_eq_zero_iff.1 (by omega)
    subst this; simp [bsF]
  | k + 1, k' + 1, l, h, h' => by
    simp only [bsF]
    split
    · rfl
    · rw [bsF_more w hw k k' (l.drop w) (by simp; omega) (by simp; omega)]
theorem bsL_small {w : Nat} {l : List α} (h : l.length ≤ w) : bsL lt w l = srtS lt l := by
  unfold bsL
  cases hl : l.length with
  | zero => rfl
  | succ k => simp only [bsF]; rw [if_pos h]
theorem bsL_cut {w : Nat} {l : List α} (hw : 0 < w) (h : w ≤ l.length) : bsL lt w l = srtS lt (l.take w) ++ bsL lt w (l.drop w) := by
  rcases Nat.lt_or_ge w l.length with h1 | h1
  · unfold bsL
    cases hl : l.length with
    | zero => omega
    | succ k =>
      simp only [bsF]
      rw [if_neg (by omega)]
      congr 1
      exact bsF_more w hw _ _ _ (by simp; omega) (by simp)
  · have e : l.length = w := by omega
    rw [bsL_small (by omega), List.take_of_length_le (by omega), List.drop_eq_nil_of_le (by omega), bsL_small (by simp)]
    simp [srtS]
theorem bsL_len (w : Nat) (hw : 0 < w) : ∀ (k : Nat) (l : List α), l.length ≤ k → (bsL lt w l).length = l.length
  | 0, l, h => by
    have : l = [] := List.length_eq_zero_iff.1 (by omega)
    subst this; rfl
  | k + 1, l, h => by
    rcases (by omega : l.length ≤ w ∨ w < l.length) with h1 | h1
    · rw [bsL_small h1, srtS_len]
    · rw [bsL_cut hw (by omega), List.length_append, srtS_len, bsL_len w hw k _ (by simp; omega)]; simp; omega
theorem bsL_two (o : SWk lt) {w : Nat} {l : List α} (hw : 0 < w) (h : 2 * w ≤ l.length) :
    bsL lt w l = srtS lt (l.take w) ++ (srtS lt ((l.drop w).take w) ++ bsL lt w (l.drop (2 * w))) ∧ bsL lt (2 * w) l = mrg lt (srtS lt (l.take w)) (srtS lt ((l.drop w).take w)) ++ bsL lt (2 * w) (l.drop (2 * w)) := by
  constructor
  · rw [bsL_cut hw (by omega), bsL_cut (l := l.drop w) hw (by simp; omega), List.drop_drop, show w + w = 2 * w by omega]
  · rw [bsL_cut (by omega) h, ← srtS_app o]
    congr 2
    rw [show 2 * w = w + w by omega, List.take_add]
theorem bsL_last (o : SWk lt) {w : Nat} {l : List α} (hw : 0 < w) (h : w < l.length) (h2 : l.length < 2 * w) :
    bsL lt w l = srtS lt (l.take w) ++ srtS lt (l.drop w) ∧ bsL lt (2 * w) l = mrg lt (srtS lt (l.take w)) (srtS lt (l.drop w)) := by
  constructor
  · rw [bsL_cut hw (by omega), bsL_small (l := l.drop w) (by simp; omega)]
  · rw [bsL_small (by omega), ← srtS_app o, List.take_append_drop]
/-- one step of an insertion: x goes ahead of the last of those that stand ahead of it -/
theorem ins_step {S R : List α} {x : α} {X : List α} {k : Nat} (hk : 0 < k) (hk2 : k ≤ S.length) :
    ((X ++ (S.take k ++ x :: (S.drop k ++ R))).set (X.length + k) (S[k - 1]'(by omega))).set (X.length + (k - 1)) x = X ++ (S.take (k - 1) ++ x :: (S.drop (k - 1) ++ R)) := by
  have e1 : S.take k = S.take (k - 1) ++ [S[k - 1]'(by omega)] := by
    have := List.take_succ_eq_append_getElem (l := S) (i := k - 1) (by omega)
    rwa [show k - 1 + 1 = k by omega] at this
  have e2 : S.drop (k - 1) = (S[k - 1]'(by omega)) :: S.drop k := by
    have := List.drop_eq_getElem_cons (l := S) (i := k - 1) (by omega)
    rwa [show k - 1 + 1 = k by omega] at this
  have e3 : (X ++ S.take (k - 1)).length = X.length + (k - 1) := by simp; omega
  rw [List.set_comm _ _ (by omega)]
  have h := swap_two (X ++ S.take (k - 1)) [] (S.drop k ++ R) (S[k - 1]'(by omega)) x
  rw [e3] at h
  simp only [List.nil_append, List.length_nil, Nat.add_zero] at h
  rw [show X.length + (k - 1) + 1 = X.length + k by omega] at h
  rw [e1, e2]
  simp only [List.append_assoc, List.cons_append, List.nil_append] at h ⊢
  exact h
theorem ins_prev {S R : List α} {x : α} {X : List α} {k : Nat} (hk : 0 < k) (hk2 : k ≤ S.length) : (X ++ (S.take k ++ x :: (S.drop k ++ R)))[X.length + (k - 1)]? = some (S[k - 1]'(by omega)) := by
  rw [List.getElem?_append_right (by omega), List.getElem?_append_left (by simp; omega), List.getElem?_take_of_lt (by omega)]
  rw [show X.length + (k - 1) - X.length = k - 1 by omega]
  exact List.getElem?_eq_getElem _
theorem ins_at {S R : List α} {x : α} {X : List α} {k : Nat} (hk2 : k ≤ S.length) : (X ++ (S.take k ++ x :: (S.drop k ++ R)))[X.length + k]? = some x := by
  have := get_at_len (P := X ++ S.take k) (R := S.drop k ++ R) (u := x)
  rw [show (X ++ S.take k).length = X.length + k by simp; omega] at this
  simpa using this
/-- the other way: x goes behind the first of those that stand behind it -/
theorem ins_fwd {S R : List α} {x : α} {X : List α} {k : Nat} (hk : k < S.length) :
    ((X ++ (S.take k ++ x :: (S.drop k ++ R))).set (X.length + k) S[k]).set (X.length + (k + 1)) x = X ++ (S.take (k + 1) ++ x :: (S.drop (k + 1) ++ R)) := by
  have e3 : (X ++ S.take k).length = X.length + k := by simp; omega
  have h := swap_two (X ++ S.take k) [] (S.drop (k + 1) ++ R) x S[k]
  rw [e3] at h
  simp only [List.nil_append, List.length_nil, Nat.add_zero] at h
  rw [List.take_succ_eq_append_getElem hk, List.drop_eq_getElem_cons hk]
  simp only [List.append_assoc, List.cons_append, List.nil_append] at h ⊢
  exact h
theorem ins_next {S R : List α} {x : α} {X : List α} {k : Nat} (hk : k < S.length) : (X ++ (S.take k ++ x :: (S.drop k ++ R)))[X.length + (k + 1)]? = some S[k] := by
  have := get_at_len (P := X ++ (S.take k ++ [x])) (R := S.drop (k + 1) ++ R) (u := S[k])
  rw [show (X ++ (S.take k ++ [x])).length = X.length + (k + 1) by simp; omega] at this
  rw [List.drop_eq_getElem_cons hk]
  simp only [List.append_assoc, List.cons_append, List.nil_append] at this ⊢
  exact this
open Go Go.RT
/- the hops of a tree, row after row -/
def rawU (r : Int) (a v : Nat) (ll : List (List Int)) (u : Int) : List Int := (if u = (a : Int) then [(v : Int)] else []) ++ (rowAt' ll u.toNat).map (capV r v)
def rawH (r : Int) (a v : Nat) (ll : List (List Int)) (up : List Int) : List Int := up.flatMap (rawU r a v ll)
def hopN (r : Int) (a : Nat) (par : List (List Int)) (ll : List (List Int)) (v : Nat) : List (List Int) := ll.set v (compL eqI (srtI (rawH r a v ll (rowAt' par v))))
def hopT (r : Int) (a n : Nat) (par : List (List Int)) (L : List Nat) : List (List Int) := L.foldl (hopN r a par) (List.replicate n [])
theorem hopN_len (r : Int) (a : Nat) (par ll : List (List Int)) (v : Nat) : (hopN r a par ll v).length = ll.length := by simp [hopN]
theorem raw_mem {r : Int} {a v : Nat} (hva : v < a ∨ a ≤ v) {ll : List (List Int)} {up : List Int} (hr : ∀ u ∈ up, u = (a : Int) → capV r v (v : Int) = (v : Int)) (x : Int) : x ∈ rawH r a v ll up ↔ ∃ u ∈ up, Src r a v ll u x := by
  unfold rawH rawU Src
  rw [List.mem_flatMap]
  refine exists_congr fun u => and_congr_right fun hu => ?_
  rw [List.mem_append, List.mem_map]
  constructor
  · rintro (h | ⟨y, h1, h2⟩)
    · by_cases e : u = (a : Int)
      · rw [if_pos e] at h
        have : x = (v : Int) := by simpa using h
        exact .inl ⟨e, by rw [hr u hu e]; exact this⟩
      · rw [if_neg e] at h; cases h
    · exact .inr ⟨y, h1, h2.symm⟩
  · rintro (⟨e, h⟩ | ⟨y, h1, h2⟩)
    · left; rw [if_pos e, h, hr u hu e]; simp
    · exact .inr ⟨y, h1, h2.symm⟩
/-- the order in which the program makes the rows -/
def ordT (r : Int) (d : List Int) (x y : Nat) : Int := orI [cmpI (gt0 d x) (gt0 d y), cmpI (min (y : Int) r) (min (x : Int) r)]
theorem ordT_neg (r : Int) (d : List Int) (x y : Nat) : ordT r d x y < 0 ↔ gt0 d x < gt0 d y ∨ gt0 d x = gt0 d y ∧ min (y : Int) r < min (x : Int) r := by
  unfold ordT
  simp only [orI, cmpI]
  split <;> split <;> (try split) <;> (try split) <;> simp_all <;> omega
structure TopL (r : Int) (n : Nat) (d : List Int) (L : List Nat) : Prop where
  mem : ∀ v, v ∈ L ↔ v < n
  nd : L.Nodup
  srt : L.Pairwise (fun x y => ¬ ordT r d y x < 0)
theorem topL_before {r : Int} {n : Nat} {d : List Int} {L p q : List Nat} (h : TopL r n d L) {v u : Nat} (e : L = p ++ v :: q) (hu : u < n) (hlt : ordT r d u v < 0) : u ∈ p := by
  have hm := (h.mem u).2 hu
  have hs := h.srt
  rw [e] at hm hs
  rcases List.mem_append.1 hm with h1 | h1
  · exact h1
  · exfalso
    have h2 := (List.pairwise_append.1 hs).2.1
    rcases List.mem_cons.1 h1 with rfl | h1
    · rw [ordT_neg] at hlt; omega
    · exact (List.pairwise_cons.1 h2).1 u h1 hlt
theorem rows_extT {a b : List (List Int)} {n : Nat} (ha : a.length = n) (hb : b.length = n) (h : ∀ v, v < n → rowAt' a v = rowAt' b v) : a = b := by
  apply List.ext_getElem (by omega)
  intro i h1 h2
  have := h i (by omega)
  simpa [rowAt', List.getD_eq_getElem?_getD, h1, h2] using this
theorem RunOk.noRow {g : Gr} {a : Nat} {t : Tr} (h : RunOk g a t) {v : Nat} (hv : v < g.m) (hn : rowAt' t.par v = []) : rowAt' t.hops v = [] := by
  have h1 := h.par_len hv
  have h2 := h.hop_len hv
  rw [hn] at h1
  have : ¬ 0 < (rowAt' t.hops v).length := fun h3 => by have := h1.2 (h2.1 h3); simp at this
  exact List.length_eq_zero_iff.1 (by omega)
theorem RunOk.row_mem {g : Gr} {a : Nat} {t : Tr} (h : RunOk g a t) {v : Nat} (hv : v < g.m) (x : Int) : x ∈ rowAt' t.hops v ↔ ∃ u ∈ rowAt' t.par v, Src g.r a v t.hops u x := by
  by_cases hm : v ∈ ordA t.dist a g.m
  · exact h.hopInv.on v hm x
  · have e1 := h.hopInv.off v hv hm
    have h2 := h.hop_len hv
    have h3 := h.par_len hv
    rw [e1] at h2
    have : ¬ 0 < (rowAt' t.par v).length := fun h4 => by have := h2.2 (h3.1 h4); simp at this
    have e2 : rowAt' t.par v = [] := List.length_eq_zero_iff.1 (by omega)
    rw [e1, e2]; simp
theorem capV_self (r : Int) (v : Nat) : capV r v (v : Int) = (v : Int) := by unfold capV; split <;> rfl
theorem hopT_go {g : Gr} {a : Nat} {t : Tr} (h : RunOk g a t) {L : List Nat} (hL : TopL g.r g.m t.dist L) : ∀ (q p : List Nat) (ll : List (List Int)), L = p ++ q → ll.length = g.m → (∀ v, v < g.m → v ∈ p → rowAt' ll v = rowAt' t.hops v) → (∀ v, v < g.m → v ∉ p → rowAt' ll v = []) → q.foldl (hopN g.r a t.par) ll = t.hops
  | [], p, ll, e, hl, h1, _ => by
    have hp : ∀ v, v < g.m → v ∈ p := fun v hv => by have := (hL.mem v).2 hv; rw [e] at this; simpa using this
    exact rows_extT hl h.hopInv.ok.len fun v hv => h1 v hv (hp v hv)
  | v :: q, p, ll, e, hl, h1, h2 => by
    have vg := h.vg
    have hv : v < g.m := (hL.mem v).1 (by rw [e]; simp)
    have hnd := hL.nd
    rw [e] at hnd
    have hvp : v ∉ p := fun hm => (List.nodup_append.1 hnd).2.2 v hm v (by simp) rfl
    have hroot : rowAt' ll a = rowAt' t.hops a := by
      have e0 : rowAt' t.par a = [] := by
        have := h.par_len h.am
        exact List.length_eq_zero_iff.1 (by
          have : ¬ 0 < (rowAt' t.par a).length := fun h4 => (this.1 h4).1 rfl
          omega)
      by_cases hm : a ∈ p
      · exact h1 a h.am hm
      · rw [h2 a h.am hm, h.noRow h.am e0]
    have hpar : ∀ u ∈ rowAt' t.par v, rowAt' ll u.toNat = rowAt' t.hops u.toNat := fun u hu => by
      obtain ⟨hva, ed, he, hf, ht, hd, hs⟩ := (h.par_mem hv u).1 hu
      have hfn := vg.f ed he
      have hc := vg.c ed he
      rw [hf] at hd hs hfn
      have hdu := h.dge (v := u.toNat) (by omega)
      by_cases hua : u = (a : Int)
      · rw [hua, Int.toNat_natCast]; exact hroot
      · refine h1 _ (by omega) (topL_before hL e (by omega) ((ordT_neg _ _ _ _).2 ?_))
        by_cases hc0 : ed.c = 0
        · have hr : (g.r.toNat : Int) ≤ ed.f := by
            by_cases hlt : ed.f < (g.r.toNat : Int)
            · have := vg.rt ed he hlt; omega
            · omega
          have := (vg.net ed he hr).1
          exact .inr ⟨by omega, by omega⟩
        · exact .inl (by omega)
    have hraw : rawH g.r a v ll (rowAt' t.par v) = rawH g.r a v t.hops (rowAt' t.par v) := by
      unfold rawH
      rw [List.flatMap_def, List.flatMap_def]
      congr 1
      exact List.map_congr_left fun u hu => by unfold rawU; rw [hpar u hu]
    obtain ⟨c1, c2⟩ := comp_asc (srtI_sorted (rawH g.r a v ll (rowAt' t.par v)))
    have hrow : compL eqI (srtI (rawH g.r a v ll (rowAt' t.par v))) = rowAt' t.hops v := by
      refine Asc.ext c1 (h.hopInv.ok.row v hv).1 fun x => ?_
      rw [c2, (srtI_perm _).mem_iff, hraw, raw_mem (Nat.lt_or_ge v a) (fun u _ _ => capV_self _ _), h.row_mem hv]
    have hset : ∀ w, w < g.m → rowAt' (hopN g.r a t.par ll v) w = if v = w then rowAt' t.hops v else rowAt' ll w := fun w hw => by
      unfold hopN
      show (ll.set v _).getD w [] = _
      rw [getD_set _ _ _ _ _ (by rw [hl]; exact hv), hrow]
    rw [List.foldl_cons]
    refine hopT_go h hL q (p ++ [v]) _ (by rw [e]; simp) (by rw [hopN_len, hl]) (fun w hw hm => ?_) (fun w hw hm => ?_)
    · rw [hset w hw]
      by_cases e1 : v = w
      · rw [if_pos e1, e1]
      · rw [if_neg e1]
        rcases List.mem_append.1 hm with hm | hm
        · exact h1 w hw hm
        · have e2 : w = v := by simpa using hm
          exact absurd e2.symm e1
    · rw [hset w hw, if_neg (fun e1 => hm (by simp [e1]))]
      exact h2 w hw (fun e1 => hm (by simp [e1]))
theorem hopT_eq {g : Gr} {a : Nat} {t : Tr} (h : RunOk g a t) {L : List Nat} (hL : TopL g.r g.m t.dist L) : hopT g.r a g.m t.par L = t.hops :=
  hopT_go h hL L [] _ rfl (by simp) (fun v _ hm => by cases hm) (fun v hv _ => getD_rep _ _ _ _ hv)
open Go Go.RT
/- rows of the edges that end at each node -/
def rowsN (es : List Edg) (n : Nat) : List (List (List FV)) := (List.range n).map fun v => (inE es v).map encE
theorem inE_succ {es : List Edg} {i : Nat} (h : i < es.length) (v : Nat) : inE (es.take (i + 1)) v = inE (es.take i) v ++ if es[i].t = (v : Int) then [es[i]] else [] := by
  unfold inE
  rw [← List.take_append_getElem h, List.filter_append]
  congr 1
  by_cases e : es[i].t = (v : Int)
  · simp [e]
  · simp [e]
theorem rowsN_succ {es : List Edg} {i n : Nat} (h : i < es.length) (h0 : 0 ≤ es[i].t) : (rowsN (es.take i) n).set es[i].t.toNat ((inE (es.take i) es[i].t.toNat).map encE ++ [encE es[i]]) = rowsN (es.take (i + 1)) n := by
  refine rng_set n _ _ _ _ ?_ fun w hw => ?_
  · rw [inE_succ h, if_pos (by omega), List.map_append]; rfl
  · rw [inE_succ h, if_neg (by omega), List.append_nil]
theorem rowsN_get (es : List Edg) {n v : Nat} (h : v < n) : (rowsN es n)[v]? = some ((inE es v).map encE) := rng_get n _ v h
theorem rowsN_nil (n : Nat) : rowsN [] n = List.replicate n [] := (rng_const n _).symm
theorem rowsN_len (es : List Edg) (n : Nat) : (rowsN es n).length = n := rng_len n _
theorem inE_len (es : List Edg) (v : Nat) : (inE es v).length ≤ es.length := List.length_filter_le _ _
theorem outE_len (es : List Edg) (v : Nat) : (outE es v).length ≤ es.length := List.length_filter_le _ _
/- graph.Next and graph.Cost on the edges of a node -/
theorem next_out {es : List Edg} (h : AscK es) (v : Nat) : nextI (v : Int) es = (outE es v).map (·.t) := by
  obtain ⟨h1, h2⟩ := nextI_spec (v : Int) es
  refine Asc.ext h1 ?_ fun x => ?_
  · unfold Asc outE
    rw [List.pairwise_map]
    have h3 : (es.filter fun e : Edg => decide (e.f = (v : Int))).Pairwise ltK := h.sublist List.filter_sublist
    refine h3.imp_of_mem fun {x y} hx hy hlt => ?_
    have e1 := (List.mem_filter.1 hx).2
    have e2 := (List.mem_filter.1 hy).2
    rw [decide_eq_true_eq] at e1 e2
    unfold ltK at hlt; omega
  · rw [h2]
    simp [outE, and_assoc]
theorem cost_at {es : List Edg} (h : AscK es) {e : Edg} (he : e ∈ es) : costL e.f e.t es = (e.c, true) := by
  have h1 : (costL e.f e.t es).2 = true := by
    cases hq : (costL e.f e.t es).2 with
    | true => rfl
    | false => exact absurd ⟨rfl, rfl⟩ (cost_none.1 hq e he)
  obtain ⟨e', he', hf, ht, hc⟩ := (cost_yes h).1 h1
  have := asc_key h he' he ⟨hf, ht⟩
  subst this
  exact Prod.ext hc.symm h1
theorem cost_old (es : List Edg) (c : Edg) : (costL c.f c.t es).2 = true → oldI es c = (costL c.f c.t es).1 := fun h => by unfold oldI; rw [if_pos h]
theorem cost_old2 (es : List Edg) (c : Edg) : (costL c.f c.t es).2 = false → oldI es c = -1 := fun h => by unfold oldI; rw [if_neg (by rw [h]; simp)]
open Go Go.RT
def popK (h : Hq) : Int := if h.it.length = 0 then 0 else h.key (h.item 0)
def popB (h : Hq) : Bool := decide (0 < h.it.length)
def popH (h : Hq) : Hq := if h.it.length = 0 then h else dropH h (h.item 0)
theorem setF_stop {es : List Edg} {f : Nat} {d : List Int} {h : Hq} (he : h.it.length = 0) : setF es f d h = (d, h) := by
  cases f with
  | zero => rfl
  | succ f => simp only [setF]; rw [if_pos he]
theorem setF_step {es : List Edg} {f : Nat} {d : List Int} {h : Hq} (he : ¬ h.it.length = 0) : setF es (f + 1) d h = setF es f (d.set (h.item 0) (h.key (h.item 0))) ((outE es (h.item 0)).foldl (relE (d.set (h.item 0) (h.key (h.item 0))) (h.key (h.item 0))) (dropH h (h.item 0))) := by
  simp only [setF]; rw [if_neg he]
open Go Go.RT
theorem lostF_stop {es : List Edg} {d : List Int} {f : Nat} {gone : List Bool} {out : List Int} {h : Hq} (he : h.it.length = 0) : lostF es d f gone out h = out := by
  cases f with
  | zero => rfl
  | succ f => simp only [lostF]; rw [if_pos he]
theorem lostF_step {es : List Edg} {d : List Int} {f : Nat} {gone : List Bool} {out : List Int} {h : Hq} (he : ¬ h.it.length = 0) : lostF es d (f + 1) gone out h = if (inE es (h.item 0)).any (heldP d gone (h.key (h.item 0))) = true then lostF es d f gone out (dropH h (h.item 0)) else lostF es d f (gone.set (h.item 0) true) (out ++ [(h.item 0 : Int)]) ((outE es (h.item 0)).foldl (lrE d (h.key (h.item 0))) (dropH h (h.item 0))) := by
  simp only [lostF]; rw [if_neg he]
end Go.Pl
namespace Go.Proofs.YtcillieggklaaaaGreat
open Go Go.RT Go.Proofs Go.Pl
set_option linter.all false
set_option maxRecDepth 20000
set_option maxHeartbeats 4000000
theorem into_c (g : Gr) (hg : checkI g = 0) : Pure Tryz.prog 58 [.agg (encG g)] (.vals 1 (fzL 3 (rowsN g.es g.m))) := by
 obtain ⟨vg, hr0, hn0⟩ := checkI_vg hg
 have hn := vg.n128
 have hel := vg.e1024
 have hrn : g.r + g.n = (g.m : Int) := by unfold Gr.m; omega
 have vt : ∀ e ∈ g.es, 0 ≤ e.t ∧ e.t < (g.m : Int) := fun e he => vg.t e he
 have hm128 : g.m ≤ 128 := hn
 clear vg hr0 hn0 hn
 generalize g.m = n at *
 refine Meets.intro Tryz.func58 rfl (Nat.le_of_ble_eq_true rfl) fun C hC => ?_
 simp only [List.map, argEnv, Nat.reduceAdd]
 refine nK2 ?_
 refine zb ?_
 refine zq ?_
 refine ze ?_
 refine zc ?_
 refine nK2 ?_
 refine zb ?_
 refine zg ?_
 refine zh ?_
 refine zg ?_
 refine zh ?_
 refine zbc ?_
 refine Run.eff (dd := some 11) rfl rfl (op_make (l := n) (c := n) rfl (oT rfl) (oT rfl) rfl rfl rfl rfl (by intro _; refine ⟨hrn, hrn, ?_⟩; omega)) ?_
 refine zd ?_
 refine zc ?_
 refine nK2 ?_
 refine Next.toOwn 1 3 n rfl ?_
 refine Next.weak [0, 1] [] (by rfl) (keepsN hC _ rfl) (G' := [(1, .ptr 0 3 0 0), (3, .sl 1 1 0 n)]) (H' := [(0, OG g), (1, some (.refs 1 (ownL 3 (rowsN [] n))))]) wG (by exact ⟨wS, ⟨ent_own rfl rfl (by rw [rowsN_nil, ← ownL_rep]; rfl), trivial⟩⟩) wN ?_
 refine nK2 ?_
 refine zb ?_
 refine zg ?_
 refine zh ?_
 refine zo ?_
 refine zbb ?_
 refine zc ?_
 refine nK2 ?_
 refine n_loop (ι := Nat) (fun i => ([(3, .sl 1 1 0 n), (13, .fz (VE g.es)), (14, IV .i64 g.es.length), (15, IV .i64 i)], [(0, OG g), (1, some (.refs 1 (ownL 3 (rowsN (g.es.take i) n))))], 2)) (fun i => i ≤ g.es.length) (fun i => g.es.length - i) 0 (Nat.zero_le _) ?_ ?_
 ·refine Next.weak [0, 1] [] (by rfl) (keepsN hC _ rfl) wG (by exact ⟨wS, ⟨ent_own rfl rfl rfl, trivial⟩⟩) wN rel_intro
 intro i hi K hK
 try dsimp only at hi ⊢
 refine nK2 ?_
 refine zb ?_
 refine zp ?_
 refine zc ?_
 refine nK2 ?_
 refine n_cond _ rfl (fun hb => ?_) (fun hb => ?_)
 ·have hlt : i < g.es.length := by simp at hb; omega
  have hr1 := row_at' encE g.es i hlt
  have hef := vt _ (List.getElem_mem hlt)
  have hst := rowsN_succ (n := n) hlt hef.1
  have hrg := rowsN_get (g.es.take i) (n := n) (v := g.es[i].t.toNat) (by omega)
  have hlen : (inE (g.es.take i) g.es[i].t.toNat).length ≤ 1024 := by
   have h1 := inE_len (g.es.take i) g.es[i].t.toNat
   have h2 : (g.es.take i).length ≤ g.es.length := List.length_take_le' _ _
   omega
  have hK1 := hK (i + 1) (by omega) (by omega)
  rw [← hst] at hK1
  have hrl := rowsN_len (g.es.take i) n
  generalize rowsN (g.es.take i) n = irs at *
  generalize inE (g.es.take i) g.es[i].t.toNat = row at *
  generalize g.es[i] = e at *
  refine nK2 ?_
  refine zb ?_
  refine zz ?_
  refine zbf ?_
  refine zu ?_
  refine zr ?_
  refine zc ?_
  refine nK2 ?_
  refine Next.take 1 e.t.toNat 0 rfl (ownL_get hrg) rfl rfl ?_
  have hs1 := set_get (ownL 3 irs) e.t.toNat [.sl 3 3 0 (row.map encE).length] (by rw [ownL_len, hrl]; omega)
  refine nK2 ?_
  refine s_draw mixed ?_
  refine za ?_
  refine zg ?_
  refine zh ?_
  refine za ?_
  refine zg ?_
  refine zh ?_
  refine rpZ 25 rfl (op_idx_sl0 e.t.toNat rfl (oT rfl) (oT rfl) (by intro _; omega)) ?_
  refine rlZ 26 rfl (op_load1_refs rfl (oT rfl) (by intro _; exact ⟨rfl, hs1⟩) rfl) ?_
  refine zk ?_
  refine zbh ?_
  refine zco ?_
  refine rpZ 30 rfl (op_idx_sl0 e.t.toNat rfl (oT rfl) (oT rfl) (by intro _; omega)) ?_
  refine Run.effW (dd := none) rfl rfl (op_store_refs rfl (oT rfl) (oT rfl) tP rfl rfl hs1 tS) (by first | exact ext_call | exact tE) ?_
  refine zs ?_
  refine nK2 ?_
  refine zb ?_
  refine zl ?_
  refine za ?_
  refine zc ?_
  refine nK2 ?_
  refine Next.untake 1 e.t.toNat 0 rfl (set_get _ _ _ (by rw [List.length_set, ownL_len, hrl]; omega)) rfl rfl (by simp) rfl ?_
  refine Next.weak [0, 1] [] (by rfl) (keepsN hC _ rfl) wG (by exact ⟨wS, ⟨ent_own rfl rfl (congrArg (fun r => some (Ob.refs 1 r)) own_back), trivial⟩⟩) wN hK1
 have hge : i = g.es.length := by simp at hb; omega
 subst hge
 rw [List.take_length]
 refine Next.freezeOwn 1 rfl rfl ?_
 have hFl : (fzL 3 (rowsN g.es n)).length = n := by rw [fzL_len, rowsN_len]
 refine Next.weakS [] [3] (by rfl) (keepsN hC _ rfl) (G' := [(3, .fz (.vals 1 (fzL 3 (rowsN g.es n))))]) (H' := []) (by exact ⟨⟨_, rfl, .inr ⟨_, rfl, .sl _ _ _ _ _ _ rfl rfl (take_all0 hFl) (by rw [hFl])⟩⟩, trivial⟩) trivial rfl ?_
 refine nK2 ?_
 refine zb ?_
 refine za ?_
 refine zd ?_
 refine zc ?_
 refine nK2 ?_
 exact wO hC
open Go Go.RT Go.Proofs Go.Pl
set_option maxRecDepth 20000
set_option maxHeartbeats 4000000
theorem pop_c (h : Hq) (o : HI h) (hm : h.it.length ≤ 1999999) : Meets Tryz.prog 81 [.ptr 0 3 0 0] 4 (HH h) (.fz (.tup [If .i64 (h.item 0 : Nat), If .i64 (popK h), Bf (popB h)])) (HX (popH h)) 5 := by
 by_cases hz : h.it.length = 0
 ·have he : h.it = [] := List.length_eq_zero_iff.1 hz
  unfold popK popB popH
  rw [if_pos hz, if_pos hz, decide_eq_false (by omega)]
  have hmn := min_c h o.ok
  rw [if_pos he, show (!h.it.isEmpty) = false by rw [he]; rfl] at hmn
  rw [show h.item 0 = 0 by unfold Hq.item; rw [he]; rfl] at hmn ⊢
  refine Meets.intro Tryz.func81 rfl (Nat.le_of_ble_eq_true rfl) fun C hC => ?_
  simp only [List.map, argEnv, Nat.reduceAdd]
  refine nK2 ?_
  refine zb ?_
  refine ze ?_
  refine ze ?_
  refine ze ?_
  refine zc ?_
  refine nK2 ?_
  refine zb ?_
  refine za ?_
  refine rlZ 7 rfl (op_call_read (n := 4) [0, 1, 2, 3] (fun _ => hmn) rfl (Opd.func _) (oS (oT rfl) Opds.nil) rfl rfl (Lent.of rfl rfl (by exact ⟨⟨rfl, rfl, rfl, tL⟩, ⟨rfl, rfl, rfl, trivial⟩, ⟨rfl, rfl, rfl, trivial⟩, ⟨rfl, rfl, rfl, trivial⟩, trivial⟩) rfl) rfl) ?_
  refine za ?_
  refine zi ?_
  refine zi ?_
  refine zi ?_
  refine zd ?_
  refine zd ?_
  refine zd ?_
  refine zc ?_
  refine nK2 ?_
  refine zb ?_
  refine za ?_
  refine zc ?_
  refine nK2 ?_
  refine n_cond _ rfl (fun hb => ?_) (fun hb => ?_)
  ·exfalso; simp at hb
  refine nK2 ?_
  refine zb ?_
  refine za ?_
  refine za ?_
  refine za ?_
  refine zd ?_
  refine zd ?_
  refine zd ?_
  refine zc ?_
  refine nK2 ?_
  refine Next.retagCell 0 0 0 rfl rfl rfl rfl rfl ?_
  refine Next.weak [0, 1, 2, 3, 4] [] (by rfl) (keepsN hC _ rfl) (G' := [(2, IV .i64 0), (3, IV .i64 0), (4, BV false)]) (H' := HX h) wG wR wN ?_
  exact n_out3 rfl (by rfl) rfl rfl (.inl ⟨_, _, _, rfl, rfl, rfl, rfl⟩)
 unfold popK popB popH
 rw [if_neg hz, if_neg hz, decide_eq_true (by omega)]
 exact pop_some h o (by omega) hm
/-- the heap in the state of settle: its items lie in block 6 -/
abbrev HSt (g : Gr) (d : List Int) (h : Hq) : Hp := [(0, OI d), (1, some (.refs 3 [[.sl 6 1 0 h.it.length, .sl 3 1 0 h.pl.length, .sl 4 1 0 h.ky.length]])), (3, OI h.pl), (4, OI h.ky), (5, OG g), (6, OT h.it)]
abbrev HSo (d : List Int) (h : Hq) : Hp := [(0, OI d), (1, some (.refs 3 [[.sl 5 1 0 h.it.length, .sl 3 1 0 h.pl.length, .sl 4 1 0 h.ky.length]])), (3, OI h.pl), (4, OI h.ky), (5, OT h.it)]
theorem settle5_c (g : Gr) (hg : checkI g = 0) (a : Nat) (d0 : List Int) (q0 : Hq) (f0 : Nat) (S0 : List Nat) (b0 : Int) (hf : g.m < f0 + S0.length) (hJ0 : SJ g.es g.m a topB d0 q0 S0 b0 []) :
  Meets Tryz.prog 61 [.fz (.agg (encG g)), .sl 0 1 0 g.m, .ptr 1 3 0 0] 5 (HDS d0 q0) (.fz (.tup [])) (HSo (setF g.es f0 d0 q0).1 (setF g.es f0 d0 q0).2) 6 := by
 obtain ⟨vg, hr0, hn0⟩ := checkI_vg hg
 have hn := vg.n128
 have hel := vg.e1024
 have hasc := vg.asc
 have hm128 : g.m ≤ 128 := hn
 have hmm : g.m = (g.r + g.n).toNat := rfl
 rw [← hmm] at vg
 generalize hR : setF g.es f0 d0 q0 = R at *
 generalize g.m = n at *
 have hok0 := hJ0.hg.hi
 have hpl0 := hJ0.hl
 have hsm0 := hok0.small
 have hpop0 := pop_c q0 hok0 (by omega)
 refine Meets.intro Tryz.func61 rfl (Nat.le_of_ble_eq_true rfl) fun C hC => ?_
 simp only [List.map, argEnv, Nat.reduceAdd]
 refine nK2 ?_
 refine zb ?_
 refine zq ?_
 refine zc ?_
 refine nK2 ?_
 refine Next.retagCell 1 0 0 rfl rfl rfl rfl rfl ?_
 refine Next.weak [0, 1, 2, 3, 4, 5, 6] [] (by rfl) (keepsN hC _ rfl) (G' := [(1, .sl 0 1 0 n), (2, .ptr 1 3 0 0), (3, .ptr 5 3 0 0)]) (H' := HSt g d0 q0) wG wR wN ?_
 refine nK2 ?_
 refine zb ?_
 refine za ?_
 refine Run.eff (dd := some 17) rfl rfl (op_call (n := 4) (n' := 5) [1, 6, 3, 4] (fun _ => hpop0) rfl (Opd.func _) (oS (oT rfl) Opds.nil) rfl rfl (Lent.of rfl rfl (by exact ⟨⟨rfl, rfl, rfl, tL⟩, ⟨rfl, rfl, rfl, trivial⟩, ⟨rfl, rfl, rfl, trivial⟩, ⟨rfl, rfl, rfl, trivial⟩, trivial⟩) rfl) rfl rfl rfl rfl rfl) ?_
 refine za ?_
 refine zi ?_
 refine zi ?_
 refine zi ?_
 refine zd ?_
 refine zd ?_
 refine zd ?_
 refine zc ?_
 refine nK2 ?_
 refine n_loop (ι := List Int × Hq × Nat) (fun s => ([(1, .sl 0 1 0 n), (2, .ptr 1 3 0 0), (3, .ptr 5 3 0 0), (6, IV .i64 (s.2.1.item 0 : Nat)), (7, IV .i64 (popK s.2.1)), (8, BV (popB s.2.1))], HSt g s.1 (popH s.2.1), 7)) (fun s => (∃ S b, SJ g.es n a topB s.1 s.2.1 S b [] ∧ n < s.2.2 + S.length) ∧ setF g.es s.2.2 s.1 s.2.1 = R) (fun s => s.2.2) (d0, q0, f0) ⟨⟨S0, b0, hJ0, hf⟩, hR⟩ ?_ ?_
 ·refine Next.weak [0, 1, 2, 3, 4, 5, 7] [] (by rfl) (keepsN hC _ rfl) wG wR wN rel_intro
 intro ⟨d, h, f⟩ ⟨⟨S, b, hJ, hfS⟩, hRs⟩ K hK
 try dsimp only at hJ hfS hRs hK ⊢
 refine nK2 ?_
 refine zb ?_
 refine za ?_
 refine zc ?_
 refine nK2 ?_
 refine n_cond _ rfl (fun hb => ?_) (fun hb => ?_)
 ·have hne : 0 < h.it.length := by simpa [popB] using hb
  have hnz : ¬ h.it.length = 0 := by omega
  obtain ⟨x1, x3, x4, x5, x6⟩ := hJ.pop vg.f vg.t vg.ne hne
  match f, hfS, hRs, hK with
  | 0, hfS, hRs, hK => omega
  | f + 1, hfS, hRs, hK =>
   rw [setF_step hnz] at hRs
   have hdl := hJ.dl
   have hrx := row_of encN d (h.item 0) 0 (by omega)
   have hLsub : ∀ e ∈ outE g.es (h.item 0), e ∈ g.es ∧ e.f = (h.item 0 : Nat) := fun e he => by simpa [outE] using he
   have hLl := outE_len g.es (h.item 0)
   have hnx := next_out hasc (h.item 0)
   have hdx : gt0 (d.set (h.item 0) (h.key (h.item 0))) (h.item 0) = h.key (h.item 0) := by rw [gt0, getD_set _ _ _ _ _ (by omega), if_pos rfl]
   rw [show popK h = h.key (h.item 0) by unfold popK; rw [if_neg hnz], show popH h = dropH h (h.item 0) by unfold popH; rw [if_neg hnz]]
   have hkb : h.key (h.item 0) ≤ 20000000 := by simp only [topB] at x4; omega
   clear hJ
   generalize h.item 0 = x at *
   generalize h.key x = kx at *
   generalize dropH h x = h1 at *
   generalize hLq : outE g.es x = L at *
   have hK4 : ∀ h2, SJ g.es n a topB (d.set x kx) h2 (x :: S) kx [] → setF g.es f (d.set x kx) h2 = R → _ := fun h2 hj2 hr2 => hK (d.set x kx, h2, f) ⟨⟨x :: S, kx, hj2, by simp only [List.length_cons] at *; omega⟩, hr2⟩ (by dsimp only; omega)
   dsimp only at hK4
   have hgxf : gt0 (d.set x kx) x = kx := hdx
   have hdl2 : (d.set x kx).length = n := by rw [List.length_set]; exact hdl
   refine nK2 ?_
   refine zb ?_
   refine za ?_
   refine za ?_
   refine za ?_
   refine rpZ 31 rfl (op_idx_sl0 x rfl (oT rfl) (oT rfl) (by intro _; exact ⟨rfl, by omega⟩)) ?_
   refine Run.eff (dd := none) rfl rfl (op_store_flat rfl (oT rfl) (oT rfl) tC rfl rfl hrx tS) ?_
   refine zc ?_
   refine nK2 ?_
   obtain ⟨dx, hde⟩ : ∃ dx, dx = d.set x kx := ⟨_, rfl⟩
   rw [← hde] at x6 hRs hdx hgxf hdl2 hK4
   refine Next.weak [0, 1, 2, 3, 4, 5, 6] [] (by rfl) (keepsN hC _ rfl) (G' := [(1, .sl 0 1 0 n), (2, .ptr 1 3 0 0), (3, .ptr 5 3 0 0), (6, IV .i64 x), (7, IV .i64 kx)]) (H' := HSt g dx h1) wG (by exact ⟨ent_same rfl rfl (flEq rfl (by rw [hde, List.map_set]; rfl)) trivial, ⟨wS, ⟨wS, ⟨wS, ⟨wS, ⟨wS, trivial⟩⟩⟩⟩⟩⟩) wN ?_
   refine nK2 ?_
   refine zb ?_
   refine zk ?_
   refine za ?_
   refine rpZ 34 rfl (op_call_pure (fun _ => next_c _ _ (by omega)) rfl (Opd.func _) (oS (oT rfl) (oS (oT rfl) Opds.nil))) ?_
   refine zo ?_
   refine zbb ?_
   refine zc ?_
   refine nK2 ?_
   rw [hnx]
   have hln : (L.map (·.t)).length = L.length := List.length_map _
   refine n_loop (ι := Nat × Hq) (fun s => ([(1, .sl 0 1 0 n), (2, .ptr 1 3 0 0), (3, .ptr 5 3 0 0), (6, IV .i64 x), (7, IV .i64 kx), (34, .fz (VI (L.map (·.t)))), (35, IV .i64 L.length), (36, IV .i64 s.1)], HSt g dx s.2, 7)) (fun s => s.1 ≤ L.length ∧ SJ g.es n a topB dx s.2 (x :: S) kx (L.drop s.1) ∧ setF g.es f dx ((L.drop s.1).foldl (relE dx kx) s.2) = R) (fun s => L.length - s.1) (0, h1) ⟨Nat.zero_le _, x6, hRs⟩ ?_ ?_
   ·refine Next.weak [0, 1, 2, 3, 4, 5, 6] [] (by rfl) (keepsN hC _ rfl) wG wR wN rel_intro
   intro ⟨j, h2⟩ ⟨hj, hJ2, hR2⟩ K2 hK2
   try dsimp only at hj hJ2 hR2 hK2 ⊢
   refine nK2 ?_
   refine zb ?_
   refine zp ?_
   refine zc ?_
   refine nK2 ?_
   refine n_cond _ rfl (fun hb => ?_) (fun hb => ?_)
   ·have hlt : j < L.length := by have := of_decide_eq_true hb; omega
    have hr1 : ((L.map (·.t)).map encN)[j]? = some (encN L[j].t) := by rw [List.getElem?_map, List.getElem?_map, List.getElem?_eq_getElem hlt]; rfl
    obtain ⟨he, hef⟩ := hLsub _ (List.getElem_mem hlt)
    rw [List.drop_eq_getElem_cons hlt] at hJ2 hR2
    rw [List.foldl_cons] at hR2
    have hK3 := fun h3 hh hh2 => hK2 (j + 1, h3) ⟨by dsimp only; omega, hh, hh2⟩ (by dsimp only; omega)
    dsimp only at hK3
    generalize L[j] = e at *
    have hco := cost_at hasc he
    rw [hef] at hco
    have het := vg.t e he
    have hec := vg.c e he
    have hJo := hJ2.hg.hi
    have hJl := hJ2.hl
    have hJs := hJo.small
    have hket := key_i h2 hJo.ok e.t e.t.toNat (by omega) (by omega)
    have hrt := row_of encN dx e.t.toNat 0 (by omega)
    have hgt : dx.getD e.t.toNat 0 = gt0 dx e.t.toNat := rfl
    rw [hgt] at hrt
    have hbt := hJ2.bd e.t.toNat (by omega)
    have hqt := hJ2.q e.t.toNat (by omega)
    have hset := set_i h2 hJo e.t e.t.toNat (kx + e.c) (by omega) (by omega) (by omega)
    have hcoP := cost_c g x e.t (by omega)
    rw [hco] at hcoP
    have hst2 := hJ2.step (x := x) vg.t vg.c he (by rw [hef, Int.toNat_natCast]; exact hgxf) x3 (by simp only [List.length_cons]; omega)
    refine nK2 ?_
    refine zb ?_
    refine zz ?_
    refine zj ?_
    refine zd ?_
    refine zc ?_
    refine nK2 ?_
    refine zb ?_
    refine zk ?_
    refine za ?_
    refine za ?_
    refine rpZ 44 rfl (op_call_pure (fun _ => hcoP) rfl (Opd.func _) (oS (oT rfl) (oS (oT rfl) (oS (oT rfl) Opds.nil)))) ?_
    refine za ?_
    refine zi ?_
    refine zi ?_
    refine zd ?_
    refine zd ?_
    refine zc ?_
    refine nK2 ?_
    refine zb ?_
    refine za ?_
    refine za ?_
    refine rlZ 50 rfl (op_call_read (n := 4) [1, 6, 3, 4] (fun _ => hket) rfl (Opd.func _) (oS (oT rfl) (oS (oT rfl) Opds.nil)) rfl rfl (Lent.of rfl rfl (by exact ⟨⟨rfl, rfl, rfl, tL⟩, ⟨rfl, rfl, rfl, trivial⟩, ⟨rfl, rfl, rfl, trivial⟩, ⟨rfl, rfl, rfl, trivial⟩, trivial⟩) rfl) rfl) ?_
    refine za ?_
    refine zi ?_
    refine zi ?_
    refine zd ?_
    refine zd ?_
    refine zc ?_
    refine nK2 ?_
    refine zb ?_
    refine za ?_
    refine za ?_
    refine rpZ 55 rfl (op_idx_sl0 e.t.toNat rfl (oT rfl) (oT rfl) (by intro _; omega)) ?_
    refine rlZ 56 rfl (op_load1_flat rfl (oT rfl) (by intro _; exact ⟨rfl, hrt⟩) rfl) ?_
    refine zbn ?_
    refine za ?_
    refine zf ?_
    refine zf ?_
    refine zbs ?_
    refine zf ?_
    refine zf ?_
    refine rgZ 64 rfl rfl tG (op_idx_sl0 e.t.toNat rfl (oO rfl tO) (oO rfl tO) (by intro _; omega)) ?_
    refine rkZ 65 rfl rfl tG (op_load1_flat rfl (oO rfl tO) (by intro _; exact ⟨rfl, hrt⟩) rfl) ?_
    refine zbk ?_
    refine zv ?_
    refine za ?_
    refine zf ?_
    refine zbl ?_
    refine zbp ?_
    refine zf ?_
    refine zf ?_
    refine zbs ?_
    refine zf ?_
    refine zbk ?_
    refine zcd ?_
    refine zt ?_
    refine zc ?_
    refine nK2 ?_
    refine n_cond _ rfl (fun hb => ?_) (fun hb => ?_)
    ·have hc : (gt0 dx e.t.toNat < 0 ∨ kx + e.c < gt0 dx e.t.toNat) ∧ (h2.place e.t.toNat < 0 ∨ kx + e.c < h2.key e.t.toNat) := by
      simp only [Bool.and_eq_true, Bool.or_eq_true, Bool.not_eq_true', decide_eq_true_eq, decide_eq_false_iff_not] at hb
      refine ⟨hb.1, ?_⟩
      rcases hb.2 with h5 | h5
      ·exact .inl (by omega)
      by_cases h6 : 0 ≤ h2.place e.t.toNat
      ·rw [if_pos h6] at h5; exact .inr h5
      exact .inl (by omega)
     unfold relE at hst2 hR2
     rw [if_pos hc] at hst2 hR2
     refine nK2 ?_
     refine zb ?_
     refine za ?_
     refine za ?_
     refine za ?_
     refine za ?_
     refine zbc ?_
     refine Run.eff (dd := some 84) rfl rfl (op_call (n := 4) (n' := 5) [1, 6, 3, 4] (fun _ => hset) rfl (Opd.func _) (oS (oT rfl) (oS (oT rfl) (oS (oT rfl) Opds.nil))) rfl rfl (Lent.of rfl rfl (by exact ⟨⟨rfl, rfl, rfl, tL⟩, ⟨rfl, rfl, rfl, trivial⟩, ⟨rfl, rfl, rfl, trivial⟩, ⟨rfl, rfl, rfl, trivial⟩, trivial⟩) rfl) rfl rfl rfl rfl rfl) ?_
     refine zc ?_
     refine nK2 ?_
     refine zb ?_
     refine zl ?_
     refine za ?_
     refine zc ?_
     refine nK2 ?_
     refine Next.weak [0, 1, 2, 3, 4, 5, 7] [] (by rfl) (keepsN hC _ rfl) wG wR wN (hK3 _ hst2 hR2)
    have hc : ¬ ((gt0 dx e.t.toNat < 0 ∨ kx + e.c < gt0 dx e.t.toNat) ∧ (h2.place e.t.toNat < 0 ∨ kx + e.c < h2.key e.t.toNat)) := fun hc => by
     rw [Bool.eq_false_iff] at hb
     apply hb
     simp only [Bool.and_eq_true, Bool.or_eq_true, Bool.not_eq_true', decide_eq_true_eq, decide_eq_false_iff_not]
     refine ⟨hc.1, ?_⟩
     rcases hc.2 with h5 | h5
     ·exact .inl (by omega)
     by_cases h6 : 0 ≤ h2.place e.t.toNat
     ·rw [if_pos h6]; exact .inr h5
     exact .inl h6
    unfold relE at hst2 hR2
    rw [if_neg hc] at hst2 hR2
    refine nK2 ?_
    refine zb ?_
    refine zl ?_
    refine za ?_
    refine zc ?_
    refine nK2 ?_
    refine Next.weak [0, 1, 2, 3, 4, 5, 6] [] (by rfl) (keepsN hC _ rfl) wG wR wN (hK3 _ hst2 hR2)
   have hje : j = L.length := by have := of_decide_eq_false hb; omega
   rw [hje, List.drop_length] at hJ2 hR2
   have hJo := hJ2.hg.hi
   have hJl := hJ2.hl
   have hJs := hJo.small
   have hpop := pop_c h2 hJo (by omega)
   refine nK2 ?_
   refine zb ?_
   refine za ?_
   refine Run.eff (dd := some 24) rfl rfl (op_call (n := 4) (n' := 5) [1, 6, 3, 4] (fun _ => hpop) rfl (Opd.func _) (oS (oT rfl) Opds.nil) rfl rfl (Lent.of rfl rfl (by exact ⟨⟨rfl, rfl, rfl, tL⟩, ⟨rfl, rfl, rfl, trivial⟩, ⟨rfl, rfl, rfl, trivial⟩, ⟨rfl, rfl, rfl, trivial⟩, trivial⟩) rfl) rfl rfl rfl rfl rfl) ?_
   refine za ?_
   refine zi ?_
   refine zi ?_
   refine zi ?_
   refine zd ?_
   refine zd ?_
   refine zd ?_
   refine zc ?_
   refine nK2 ?_
   refine Next.weak [0, 1, 2, 3, 4, 5, 7] [] (by rfl) (keepsN hC _ rfl) wG wR wN (hK4 h2 hJ2 hR2)
 have hz : h.it.length = 0 := by simp [popB] at hb; simp [hb]
 rw [setF_stop hz] at hRs
 subst hRs
 rw [show popH h = h by unfold popH; rw [if_pos hz]]
 refine nK ?_
 refine Next.weak [0, 1, 2, 3, 4, 6] [] (by rfl) (keepsN hC _ rfl) (G' := []) (H' := HSo d h) trivial wR wN ?_
 exact n_out0 rfl
open Go Go.RT Go.Proofs Go.Pl
set_option maxRecDepth 20000
set_option maxHeartbeats 4000000
abbrev OBl (l : List Bool) : Option Ob := some (.flat 1 (l.map encB))
abbrev HG3 (n : Nat) (gone : List Bool) (k : Int) : Hp := [(0, some (.refs 1 [[.sl 1 1 0 n]])), (1, OBl gone), (2, some (.flat 1 [[If .i64 k]]))]
abbrev clH (d : List Int) : PV := .clo 83 [] [.ptr 0 1 0 0, .fz (.cellp [VI d]), .ptr 2 1 0 0]
theorem held_c (n : Nat) (d : List Int) (gone : List Bool) (k : Int) (e : Edg) (hf : 0 ≤ e.f ∧ e.f < n) (hc : 0 ≤ e.c ∧ e.c ≤ 65535) (hd : d.length = n) (hg : gone.length = n) (hn : n ≤ 128) (hb : gt0 d e.f.toNat ≤ 20000000) :
  Meets Tryz.prog 83 [.fz (.agg (encE e)), .ptr 0 1 0 0, .fz (.cellp [VI d]), .ptr 2 1 0 0] 3 (HG3 n gone k) (BV (heldP d gone k e)) (HG3 n gone k) 3 := by
 have hrd := row_at' encN d e.f.toNat (by omega)
 have hrg := row_of encB gone e.f.toNat false (by omega)
 have hdd : d[e.f.toNat] = gt0 d e.f.toNat := by unfold gt0; rw [List.getD_eq_getElem?_getD, List.getElem?_eq_getElem]; rfl
 rw [hdd] at hrd
 have hgg : gone.getD e.f.toNat false = gtb gone e.f.toNat := rfl
 rw [hgg] at hrg
 unfold heldP
 generalize gt0 d e.f.toNat = dv at *
 generalize gtb gone e.f.toNat = gv at *
 refine Meets.intro Tryz.func83 rfl (Nat.le_of_ble_eq_true rfl) fun C hC => ?_
 simp only [List.map, argEnv, Nat.reduceAdd]
 refine nK2 ?_
 refine zb ?_
 refine zq ?_
 refine ze ?_
 refine zc ?_
 refine nK2 ?_
 refine s_draw mixed ?_
 refine zy ?_
 refine zg ?_
 refine zh ?_
 refine rpZ 9 rfl (op_idx_sl0 e.f.toNat rfl (oT rfl) (oT rfl) (by intro _; omega)) ?_
 refine rlZ 10 rfl (op_load1_flat rfl (oT rfl) (by intro _; exact ⟨rfl, hrg⟩) rfl) ?_
 refine zbj ?_
 refine za ?_
 refine zcu ?_
 refine zn ?_
 refine zm ?_
 refine rgZ 16 rfl rfl tG (op_idx_fz e.f.toNat rfl (oO rfl tO) (oO rfl tO) (by intro _; exact ⟨by omega, hrd⟩)) ?_
 refine zw ?_
 refine zck ?_
 refine zt ?_
 refine za ?_
 refine zcu ?_
 refine zn ?_
 refine zm ?_
 refine rgZ 24 rfl rfl tG (op_idx_fz e.f.toNat rfl (oO rfl tO) (oO rfl tO) (by intro _; exact ⟨by omega, hrd⟩)) ?_
 refine zw ?_
 refine zn ?_
 refine zm ?_
 refine zbs ?_
 refine rkZ 29 rfl rfl tG (op_load1_flat rfl (oT rfl) tH rfl) ?_
 refine zbo ?_
 refine zt ?_
 refine zd ?_
 refine zs ?_
 refine nK2 ?_
 refine Next.weak [0, 1, 2] [] (by rfl) (keepsN hC _ rfl) (G' := [(5, BV ((!gv && decide (0 ≤ dv)) && decide (dv + e.c = k)))]) (H' := HG3 n gone k) wG wR wN ?_
 exact n_out1 rfl (by rfl) rfl rfl
theorem indexF_c (n : Nat) (d : List Int) (gone : List Bool) (k : Int) (l : List Edg) (hf : ∀ e ∈ l, 0 ≤ e.f ∧ e.f < n) (hc : ∀ e ∈ l, 0 ≤ e.c ∧ e.c ≤ 65535) (hd : d.length = n) (hg : gone.length = n) (hn : n ≤ 128) (hbd : ∀ v, v < n → gt0 d v ≤ 20000000) (hl : l.length ≤ 2000000) :
  Meets Tryz.prog 98 [.fz (VE l), clH d] 3 (HG3 n gone k) (.fz (If .i64 (idxAt (heldP d gone k) 0 l))) (HG3 n gone k) 3 := by
 refine Meets.intro Tryz.func98 rfl (Nat.le_of_ble_eq_true rfl) fun C hC => ?_
 simp only [List.map, argEnv, Nat.reduceAdd]
 refine nK2 ?_
 refine zb ?_
 refine ze ?_
 refine zc ?_
 refine nK2 ?_
 refine zb ?_
 refine za ?_
 refine zo ?_
 refine zbb ?_
 refine zc ?_
 refine nK2 ?_
 refine n_loop (ι := Nat) (fun i => ([(0, .fz (VE l)), (1, clH d), (7, IV .i64 l.length), (8, IV .i64 i)], HG3 n gone k, 3)) (fun i => i ≤ l.length ∧ idxAt (heldP d gone k) 0 l = idxAt (heldP d gone k) i (l.drop i)) (fun i => l.length - i) 0 ⟨Nat.zero_le _, rfl⟩ ?_ ?_
 ·refine Next.weak [0, 1, 2] [] (by rfl) (keepsN hC _ rfl) wG wR wN rel_intro
 intro i ⟨hi, ho⟩ K hK
 try dsimp only at hi ho hK ⊢
 refine nK2 ?_
 refine zb ?_
 refine zp ?_
 refine zc ?_
 refine nK2 ?_
 refine n_cond _ rfl (fun hb => ?_) (fun hb => ?_)
 ·have hlt : i < l.length := by have := of_decide_eq_true (by assumption); omega
  rw [List.drop_eq_getElem_cons hlt] at ho
  have hr1 := row_at' encE l i hlt
  have hmem := List.getElem_mem hlt
  have hK1 := fun h => hK (i + 1) ⟨by omega, h⟩ (by omega)
  generalize l[i] = e at *
  have hh := held_c n d gone k e (hf e hmem) (hc e hmem) hd hg hn (hbd _ (by have := hf e hmem; omega))
  refine nK2 ?_
  refine zb ?_
  refine za ?_
  refine zd ?_
  refine zc ?_
  refine nK2 ?_
  refine zb ?_
  refine za ?_
  refine za ?_
  refine za ?_
  refine zz ?_
  refine zbf ?_
  refine rlZ 16 rfl (op_call_read (n := 3) [0, 1, 2] (fun _ => hh) rfl (oT rfl) (oS (oT rfl) Opds.nil) rfl rfl (Lent.of rfl rfl (by exact ⟨⟨rfl, rfl, rfl, tL⟩, ⟨rfl, rfl, rfl, trivial⟩, ⟨rfl, rfl, rfl, trivial⟩, trivial⟩) rfl) rfl) ?_
  refine zc ?_
  refine nK2 ?_
  refine n_cond _ rfl (fun hb => ?_) (fun hb => ?_)
  ·have e1 : heldP d gone k e = true := by assumption
   rw [ho, show idxAt (heldP d gone k) i (e :: l.drop (i + 1)) = (i : Int) by simp [idxAt, e1]]
   refine nK2 ?_
   refine zb ?_
   refine za ?_
   refine zd ?_
   refine zc ?_
   refine nK2 ?_
   refine Next.weak [0, 1, 2] [] (by rfl) (keepsN hC _ rfl) (G' := [(4, IV .i64 i)]) (H' := HG3 n gone k) wG wR wN ?_
   exact n_out1 rfl (by rfl) rfl rfl
  have e1 : heldP d gone k e = false := by assumption
  rw [show idxAt (heldP d gone k) i (e :: l.drop (i + 1)) = idxAt (heldP d gone k) (i + 1) (l.drop (i + 1)) by simp [idxAt, e1]] at ho
  refine nK2 ?_
  refine zb ?_
  refine zl ?_
  refine za ?_
  refine zc ?_
  refine nK2 ?_
  refine Next.weak [0, 1, 2] [] (by rfl) (keepsN hC _ rfl) wG wR wN (hK1 ho)
 have hlt : ¬ ((i : Int) < l.length) := of_decide_eq_false (by assumption)
 have hie : i = l.length := by omega
 rw [hie, List.drop_length] at ho
 rw [ho]
 refine nK2 ?_
 refine zb ?_
 refine ze ?_
 refine zc ?_
 refine nK2 ?_
 refine Next.weak [0, 1, 2] [] (by rfl) (keepsN hC _ rfl) (G' := [(4, IV .i64 (-1))]) (H' := HG3 n gone k) wG wR wN ?_
 exact n_out1 rfl (by rfl) rfl rfl
theorem contF_c (n : Nat) (d : List Int) (gone : List Bool) (k : Int) (l : List Edg) (hf : ∀ e ∈ l, 0 ≤ e.f ∧ e.f < n) (hc : ∀ e ∈ l, 0 ≤ e.c ∧ e.c ≤ 65535) (hd : d.length = n) (hg : gone.length = n) (hn : n ≤ 128) (hbd : ∀ v, v < n → gt0 d v ≤ 20000000) (hl : l.length ≤ 2000000) :
  Meets Tryz.prog 82 [.fz (VE l), clH d] 3 (HG3 n gone k) (.fz (Bf (l.any (heldP d gone k)))) (HG3 n gone k) 3 := by
 have hix := indexF_c n d gone k l hf hc hd hg hn hbd hl
 have e : l.any (heldP d gone k) = decide (0 ≤ idxAt (heldP d gone k) 0 l) := by
  rcases idxAt_spec (heldP d gone k) l 0 with ⟨h1, h2⟩ | ⟨j, hj, h1, h2, h3⟩
  ·rw [h1, decide_eq_false (by decide), List.any_eq_false]
   intro x hx hp
   have : keepL (heldP d gone k) l = l := h2
   rw [← this] at hx
   have := (List.mem_filter.1 hx).2
   rw [hp] at this; simp at this
  rw [h1, decide_eq_true (by omega), List.any_eq_true]
  exact ⟨l[j], List.getElem_mem hj, h2⟩
 rw [e]
 refine Meets.intro Tryz.func82 rfl (Nat.le_of_ble_eq_true rfl) fun C hC => ?_
 simp only [List.map, argEnv, Nat.reduceAdd]
 refine nK2 ?_
 refine zb ?_
 refine ze ?_
 refine zc ?_
 refine nK2 ?_
 refine zb ?_
 refine za ?_
 refine za ?_
 refine rlZ 7 rfl (op_call_read (n := 3) [0, 1, 2] (fun _ => hix) rfl (Opd.func _) (oS (oT rfl) (oS (oT rfl) Opds.nil)) rfl rfl (Lent.of rfl rfl (by exact ⟨⟨rfl, rfl, rfl, tL⟩, ⟨rfl, rfl, rfl, trivial⟩, ⟨rfl, rfl, rfl, trivial⟩, trivial⟩) rfl) rfl) ?_
 refine zby ?_
 refine zd ?_
 refine zc ?_
 refine nK2 ?_
 refine Next.weak [0, 1, 2] [] (by rfl) (keepsN hC _ rfl) (G' := [(4, BV (decide (0 ≤ idxAt (heldP d gone k) 0 l)))]) (H' := HG3 n gone k) wG wR wN ?_
 exact n_out1 rfl (by rfl) rfl rfl
open Go Go.RT Go.Proofs Go.Pl
set_option maxRecDepth 20000
set_option maxHeartbeats 4000000
abbrev HLo (n : Nat) (gone : List Bool) (h : Hq) (k : Int) (out : List Int) : Hp := [(0, some (.refs 1 [[.sl 1 1 0 n]])), (1, OBl gone), (2, some (.refs 3 [[.sl 5 1 0 h.it.length, .sl 3 1 0 h.pl.length, .sl 4 1 0 h.ky.length]])), (3, OI h.pl), (4, OI h.ky), (5, OT h.it), (6, some (.flat 1 [[If .i64 k]])), (7, OI out)]
theorem lost_c (g : Gr) (hg : checkI g = 0) (a at_ : Nat) (d : List Int) (f0 : Nat) (p : DP g.es g.m a d) (hbd : ∀ v, v < g.m → gt0 d v ≤ 8388480) (hat : at_ < g.m) (hJ0 : LJ g.es g.m a d (List.replicate g.m false) [] (setH (newH g.m) at_ (gt0 d at_)) []) (hf0 : lostM g.m [] (setH (newH g.m) at_ (gt0 d at_)) < f0) :
  Pure Tryz.prog 59 [.agg (encG g), VI d, .vals 1 (fzL 3 (rowsN g.es g.m)), If .i64 (at_ : Int)] (VI (lostF g.es d f0 (List.replicate g.m false) [] (setH (newH g.m) at_ (gt0 d at_)))) := by
 obtain ⟨vg, hr0, hn0⟩ := checkI_vg hg
 have hn := vg.n128
 have hel := vg.e1024
 have hasc := vg.asc
 have hm128 : g.m ≤ 128 := hn
 have hmm : g.m = (g.r + g.n).toNat := rfl
 rw [← hmm] at vg
 generalize hR : lostF g.es d f0 (List.replicate g.m false) [] (setH (newH g.m) at_ (gt0 d at_)) = R at *
 generalize g.m = n at *
 have hSet := set_c (newH n) (HG.new n).hi at_ (gt0 d at_) (by simpa [newH] using hat) (by simp [newH])
 have hdl := p.dl
 have hrd := row_at' encN d at_ (by omega)
 have hdd : d[at_] = gt0 d at_ := by unfold gt0; rw [List.getD_eq_getElem?_getD, List.getElem?_eq_getElem]; rfl
 rw [hdd] at hrd
 have hok0 := hJ0.hg.hi
 have hpl0 := hJ0.hl
 have hsm0 := hok0.small
 generalize hq0 : setH (newH n) at_ (gt0 d at_) = q0 at *
 have hpop0 := pop_c q0 hok0 (by omega)
 subst hdl
 refine Meets.intro Tryz.func59 rfl (Nat.le_of_ble_eq_true rfl) fun C hC => ?_
 simp only [List.map, argEnv, Nat.reduceAdd]
 refine nK2 ?_
 refine zb ?_
 refine zq ?_
 refine zq ?_
 refine ze ?_
 refine zc ?_
 refine nK2 ?_
 refine Next.weakS [] [4, 5] (by rfl) (keepsN hC _ rfl) (G' := [(2, .fz (.vals 1 (fzL 3 (rowsN g.es d.length)))), (3, IV .i64 at_), (4, .fz (.cellp (encG g))), (5, .fz (.cellp [VI d]))]) (H' := []) wF trivial rfl ?_
 refine nK2 ?_
 refine zb ?_
 refine zj ?_
 refine zo ?_
 refine Run.eff (dd := some 22) rfl rfl (op_make (l := d.length) (c := d.length) rfl (oT rfl) (oT rfl) rfl rfl rfl rfl (by intro _; refine ⟨by omega, by omega, ?_⟩; omega)) ?_
 refine zdf ?_
 refine zcp ?_
 refine zc ?_
 refine nK2 ?_
 refine Next.weak [1, 0] [] (by rfl) (keepsN hC _ rfl) (G' := [(2, .fz (.vals 1 (fzL 3 (rowsN g.es d.length)))), (3, IV .i64 at_), (4, .fz (.cellp (encG g))), (5, .fz (.cellp [VI d])), (9, .ptr 0 1 0 0)]) (H' := [(0, some (.refs 1 [[.sl 1 1 0 d.length]])), (1, OBl (List.replicate d.length false))]) wG (by exact ⟨wS, ⟨ent_same rfl rfl (flEq rfl (by rw [List.map_replicate]; rfl)) trivial, trivial⟩⟩) wN ?_
 refine nK2 ?_
 refine zb ?_
 refine ze ?_
 refine zc ?_
 refine nK2 ?_
 refine zb ?_
 refine zj ?_
 refine zo ?_
 refine Run.eff (dd := some 25) rfl rfl (op_call (n := 0) (n' := 4) [] (fun _ => new_c d.length (by omega)) rfl (Opd.func _) (oS (oT rfl) Opds.nil) rfl rfl (Lent.of rfl rfl trivial rfl) rfl rfl rfl rfl rfl) ?_
 refine zd ?_
 refine zc ?_
 refine nK2 ?_
 refine zb ?_
 refine za ?_
 refine za ?_
 refine zj ?_
 refine za ?_
 refine rpZ 30 rfl (op_idx_fz at_ rfl (oT rfl) (oT rfl) (by intro _; exact ⟨rfl, hrd⟩)) ?_
 refine zj ?_
 refine Run.eff (dd := some 32) rfl rfl (op_call (n := 4) (n' := 5) [2, 3, 4, 5] (fun _ => hSet) rfl (Opd.func _) (oS (oT rfl) (oS (oT rfl) (oS (oT rfl) Opds.nil))) rfl rfl (Lent.of rfl rfl (by exact ⟨⟨rfl, rfl, rfl, tL⟩, ⟨rfl, rfl, rfl, trivial⟩, ⟨rfl, rfl, rfl, trivial⟩, ⟨rfl, rfl, rfl, trivial⟩, trivial⟩) rfl) rfl rfl rfl rfl rfl) ?_
 refine zc ?_
 refine nK2 ?_
 refine zb ?_
 refine za ?_
 refine Run.eff (dd := some 35) rfl rfl (op_call (n := 4) (n' := 5) [2, 6, 4, 5] (fun _ => hpop0) rfl (Opd.func _) (oS (oT rfl) Opds.nil) rfl rfl (Lent.of rfl rfl (by exact ⟨⟨rfl, rfl, rfl, tL⟩, ⟨rfl, rfl, rfl, trivial⟩, ⟨rfl, rfl, rfl, trivial⟩, ⟨rfl, rfl, rfl, trivial⟩, trivial⟩) rfl) rfl rfl rfl rfl rfl) ?_
 refine za ?_
 refine zi ?_
 refine zi ?_
 refine zi ?_
 refine zu ?_
 refine zd ?_
 refine zr ?_
 refine zd ?_
 refine zc ?_
 refine nK2 ?_
 refine Next.adopt 10 1 rfl ?_
 refine n_loop (ι := List Bool × List Int × Hq × Nat) (fun s => ([(2, .fz (.vals 1 (fzL 3 (rowsN g.es d.length)))), (4, .fz (.cellp (encG g))), (5, .fz (.cellp [VI d])), (9, .ptr 0 1 0 0), (10, .sl 7 1 0 s.2.1.length), (11, .ptr 2 3 0 0), (12, IV .i64 (s.2.2.1.item 0 : Nat)), (13, .ptr 6 1 0 0), (14, BV (popB s.2.2.1))], HLo d.length s.1 (popH s.2.2.1) (popK s.2.2.1) s.2.1, 8)) (fun s => LJ g.es d.length a d s.1 s.2.1 s.2.2.1 [] ∧ lostM d.length s.2.1 s.2.2.1 < s.2.2.2 ∧ lostF g.es d s.2.2.2 s.1 s.2.1 s.2.2.1 = R) (fun s => s.2.2.2) (List.replicate d.length false, [], q0, f0) ⟨hJ0, hf0, hR⟩ ?_ ?_
 ·refine Next.weak [0, 1, 2, 4, 5, 7, 8, 9] [] (by rfl) (keepsN hC _ rfl) wG wR wN rel_intro
 intro ⟨gone, out, h, f⟩ ⟨hJ, hfm, hRs⟩ K hK
 try dsimp only at hJ hfm hRs hK ⊢
 refine nK2 ?_
 refine zb ?_
 refine za ?_
 refine zc ?_
 refine nK2 ?_
 refine n_cond _ rfl (fun hb => ?_) (fun hb => ?_)
 ·have hne : 0 < h.it.length := by simpa [popB] using hb
  have hnz : ¬ h.it.length = 0 := by omega
  obtain ⟨x1, x2, x3, x4, x5, x6, x7, x8⟩ := hJ.pop p hne
  match f, hfm, hRs, hK with
  | 0, hfm, hRs, hK => omega
  | f + 1, hfm, hRs, hK =>
   rw [lostF_step hnz] at hRs
   have hgl := hJ.gl
   have hrE := fzL_get (sz := 3) (rowsN_get g.es x1)
   have hcf := contF_c d.length d gone (h.key (h.item 0)) (inE g.es (h.item 0)) (fun e he => p.f e (List.mem_filter.1 he).1) (fun e he => p.c e (List.mem_filter.1 he).1) rfl hgl hm128 (fun v hv => by have := hbd v hv; omega) (by have := inE_len g.es (h.item 0); omega)
   have hrb := row_of encB gone (h.item 0) false (by omega)
   have hLsub : ∀ e ∈ outE g.es (h.item 0), e ∈ g.es ∧ e.f = (h.item 0 : Nat) := fun e he => by simpa [outE] using he
   have hLl := outE_len g.es (h.item 0)
   have hnx := next_out hasc (h.item 0)
   have hx20 : h.key (h.item 0) ≤ 20000000 := by rw [x4]; have := hbd _ x1; omega
   rw [show popK h = h.key (h.item 0) by unfold popK; rw [if_neg hnz], show popH h = dropH h (h.item 0) by unfold popH; rw [if_neg hnz]]
   refine nK2 ?_
   refine zb ?_
   refine za ?_
   refine za ?_
   refine rpZ 48 rfl (op_idx_fz (h.item 0) rfl (oT rfl) (oT rfl) (by intro _; exact ⟨rfl, hrE⟩)) ?_
   refine zj ?_
   refine rpZ 50 rfl (op_makeFunc rfl Opds.nil (oS (oT rfl) (oS (oT rfl) (oS (oT rfl) Opds.nil)))) ?_
   refine rlZ 51 rfl (op_call_read (n := 3) [0, 1, 6] (fun _ => hcf) rfl (Opd.func _) (oS (oT rfl) (oS (oT rfl) Opds.nil)) rfl rfl (Lent.of rfl rfl (by exact ⟨⟨rfl, rfl, rfl, tL⟩, ⟨rfl, rfl, rfl, trivial⟩, ⟨rfl, rfl, rfl, trivial⟩, trivial⟩) rfl) rfl) ?_
   refine zd ?_
   refine zc ?_
   refine nK2 ?_
   refine zb ?_
   refine za ?_
   refine zc ?_
   refine nK2 ?_
   refine n_cond _ rfl (fun hb => ?_) (fun hb => ?_)
   ·have hA : (inE g.es (h.item 0)).any (heldP d gone (h.key (h.item 0))) = true := by assumption
    rw [if_pos hA] at hRs
    have hJ2 := x7 hA
    have hok2 := hJ2.hg.hi
    have hpl2 := hJ2.hl
    have hsm2 := hok2.small
    have hpop2 := pop_c (dropH h (h.item 0)) hok2 (by omega)
    have hmm2 := lostM_yes (n := d.length) (out := out) hne x6
    have hK2 := hK (gone, out, dropH h (h.item 0), f) ⟨hJ2, by dsimp only; omega, hRs⟩ (by dsimp only; omega)
    dsimp only at hK2
    generalize dropH h (h.item 0) = h1 at *
    refine nK2 ?_
    refine zb ?_
    refine zh ?_
    refine zc ?_
    refine nK2 ?_
    refine zb ?_
    refine zu ?_
    refine zr ?_
    refine zc ?_
    refine nK2 ?_
    refine zb ?_
    refine za ?_
    refine Run.eff (dd := some 42) rfl rfl (op_call (n := 4) (n' := 5) [2, 5, 3, 4] (fun _ => hpop2) rfl (Opd.func _) (oS (oT rfl) Opds.nil) rfl rfl (Lent.of rfl rfl (by exact ⟨⟨rfl, rfl, rfl, tL⟩, ⟨rfl, rfl, rfl, trivial⟩, ⟨rfl, rfl, rfl, trivial⟩, ⟨rfl, rfl, rfl, trivial⟩, trivial⟩) rfl) rfl rfl rfl rfl rfl) ?_
    refine za ?_
    refine zi ?_
    refine zi ?_
    refine zi ?_
    refine zd ?_
    refine zr ?_
    refine zd ?_
    refine zc ?_
    refine nK2 ?_
    refine Next.weak [0, 1, 2, 3, 4, 9, 8, 7] [] (by rfl) (keepsN hC _ rfl) wG wR wN hK2
   have hA : (inE g.es (h.item 0)).any (heldP d gone (h.key (h.item 0))) = false := by assumption
   rw [if_neg (by rw [hA]; simp)] at hRs
   have hsmJ := hJ.small
   obtain ⟨hol, hJ3⟩ := x8 hA
   have hfr := hJ.fresh p x1 x5 x3
   have hgx : gtb (gone.set (h.item 0) true) (h.item 0) = true := by rw [gtb_set (by omega), if_pos rfl]
   have hK4 : ∀ h2, LJ g.es d.length a d (gone.set (h.item 0) true) (out ++ [(h.item 0 : Int)]) h2 [] → lostF g.es d f (gone.set (h.item 0) true) (out ++ [(h.item 0 : Int)]) h2 = R → _ := fun h2 hj2 hr2 => hK (gone.set (h.item 0) true, out ++ [(h.item 0 : Int)], h2, f) ⟨hj2, by have := lostM_no (x := h.item 0) hol hne hj2.small.1; dsimp only; omega, hr2⟩ (by dsimp only; omega)
   dsimp only at hK4
   refine nK2 ?_
   refine zb ?_
   refine zy ?_
   refine za ?_
   refine rpZ 55 rfl (op_idx_sl0 (h.item 0) rfl (oT rfl) (oT rfl) (by intro _; omega)) ?_
   refine Run.eff (dd := none) rfl rfl (op_store_flat rfl (oT rfl) oC tC rfl rfl hrb tS) ?_
   refine zc ?_
   refine nK2 ?_
   refine zb ?_
   refine za ?_
   refine za ?_
   refine zbh ?_
   refine zbu ?_
   refine zd ?_
   refine zc ?_
   refine nK2 ?_
   rw [x4] at hRs
   rw [x4]
   have hxk : 0 ≤ gt0 d (h.item 0) ∧ gt0 d (h.item 0) ≤ 20000000 := by rw [← x4]; exact ⟨by omega, hx20⟩
   clear hK hpop0 hcf x6 x7 x8 hJ
   generalize h.item 0 = x at *
   generalize hdk : gt0 d x = kx at *
   generalize dropH h x = h1 at *
   generalize hLq : outE g.es x = L at *
   obtain ⟨gn, hgne⟩ : ∃ gn, gn = gone.set x true := ⟨_, rfl⟩
   obtain ⟨ou, houe⟩ : ∃ ou, ou = out ++ [(x : Int)] := ⟨_, rfl⟩
   have houl : ou.length = out.length + 1 := by rw [houe]; simp
   rw [← hgne, ← houe] at hRs hJ3 hK4
   rw [← hgne] at hgx hfr
   refine Next.weak [0, 1, 2, 3, 4, 5, 6, 8] [] (by rfl) (keepsN hC _ rfl) (G' := [(2, .fz (.vals 1 (fzL 3 (rowsN g.es d.length)))), (4, .fz (.cellp (encG g))), (5, .fz (.cellp [VI d])), (9, .ptr 0 1 0 0), (10, .sl 7 1 0 ou.length), (11, .ptr 2 3 0 0), (12, IV .i64 x), (13, .ptr 6 1 0 0)]) (H' := HLo d.length gn h1 kx ou) (by exact ⟨⟨_, rfl, .inl ⟨rfl, rfl⟩⟩, ⟨_, rfl, .inl ⟨rfl, rfl⟩⟩, ⟨_, rfl, .inl ⟨rfl, rfl⟩⟩, ⟨_, rfl, .inl ⟨rfl, rfl⟩⟩, ⟨_, rfl, .inl ⟨slEq rfl (by rw [houl]; rfl), rfl⟩⟩, ⟨_, rfl, .inl ⟨rfl, rfl⟩⟩, ⟨_, rfl, .inl ⟨rfl, rfl⟩⟩, ⟨_, rfl, .inl ⟨rfl, rfl⟩⟩, trivial⟩) (by exact ⟨wS, ⟨ent_same rfl rfl (flEq rfl (by rw [hgne, List.map_set]; rfl)) trivial, ⟨wS, ⟨wS, ⟨wS, ⟨wS, ⟨wS, ⟨ent_same rfl rfl (flEq rfl (by rw [houe, List.map_append]; rfl)) trivial, trivial⟩⟩⟩⟩⟩⟩⟩⟩) wN ?_
   refine nK2 ?_
   refine zb ?_
   refine zbf ?_
   refine za ?_
   refine rpZ 62 rfl (op_call_pure (fun _ => next_c _ _ (by omega)) rfl (Opd.func _) (oS (oT rfl) (oS (oT rfl) Opds.nil))) ?_
   refine zo ?_
   refine zbb ?_
   refine zc ?_
   refine nK2 ?_
   rw [hnx]
   have hln : (L.map (·.t)).length = L.length := List.length_map _
   refine n_loop (ι := Nat × Hq) (fun s => ([(2, .fz (.vals 1 (fzL 3 (rowsN g.es d.length)))), (4, .fz (.cellp (encG g))), (5, .fz (.cellp [VI d])), (9, .ptr 0 1 0 0), (10, .sl 7 1 0 ou.length), (11, .ptr 2 3 0 0), (12, IV .i64 x), (13, .ptr 6 1 0 0), (62, .fz (VI (L.map (·.t)))), (63, IV .i64 L.length), (64, IV .i64 s.1)], HLo d.length gn s.2 kx ou, 8)) (fun s => s.1 ≤ L.length ∧ LJ g.es d.length a d gn ou s.2 (L.drop s.1) ∧ lostF g.es d f gn ou ((L.drop s.1).foldl (lrE d kx) s.2) = R) (fun s => L.length - s.1) (0, h1) ⟨Nat.zero_le _, hJ3, hRs⟩ ?_ ?_
   ·refine Next.weak [0, 1, 2, 3, 4, 5, 6, 7] [] (by rfl) (keepsN hC _ rfl) wG wR wN rel_intro
   intro ⟨j, h2⟩ ⟨hj, hJ2, hR2⟩ K2 hK2
   try dsimp only at hj hJ2 hR2 hK2 ⊢
   refine nK2 ?_
   refine zb ?_
   refine zp ?_
   refine zc ?_
   refine nK2 ?_
   refine n_cond _ rfl (fun hb => ?_) (fun hb => ?_)
   ·have hlt : j < L.length := by have := of_decide_eq_true hb; omega
    have hr1 : ((L.map (·.t)).map encN)[j]? = some (encN L[j].t) := by rw [List.getElem?_map, List.getElem?_map, List.getElem?_eq_getElem hlt]; rfl
    obtain ⟨he, hef⟩ := hLsub _ (List.getElem_mem hlt)
    have hdr : ∀ e' ∈ L.drop (j + 1), e'.f = (x : Int) := fun e' he' => (hLsub e' (List.mem_of_mem_drop he')).2
    rw [List.drop_eq_getElem_cons hlt] at hJ2 hR2
    rw [List.foldl_cons] at hR2
    have hK3 := fun h3 hh hh2 => hK2 (j + 1, h3) ⟨by dsimp only; omega, hh, hh2⟩ (by dsimp only; omega)
    dsimp only at hK3
    generalize L[j] = e at *
    have hco := cost_at hasc he
    rw [hef] at hco
    have het := p.t e he
    have hec := p.c e he
    have hJo := hJ2.hg.hi
    have hJl := hJ2.hl
    have hJs := hJo.small
    have hrt := row_at' encN d e.t.toNat (by omega)
    have hdt : d[e.t.toNat] = gt0 d e.t.toNat := by unfold gt0; rw [List.getD_eq_getElem?_getD, List.getElem?_eq_getElem]; rfl
    rw [hdt] at hrt
    have hbt := hbd e.t.toNat (by omega)
    have hset := set_i h2 hJo e.t e.t.toNat (gt0 d e.t.toNat) (by omega) (by omega) (by omega)
    have hcoP := cost_c g x e.t (by omega)
    rw [hco] at hcoP
    have hst2 := hJ2.step (x := x) p he hef hgx x1 hdr (by rw [hdk]; exact hfr)
    rw [hdk] at hst2
    refine nK2 ?_
    refine zb ?_
    refine zz ?_
    refine zj ?_
    refine zd ?_
    refine zc ?_
    refine nK2 ?_
    refine zb ?_
    refine zbf ?_
    refine za ?_
    refine za ?_
    refine rpZ 72 rfl (op_call_pure (fun _ => hcoP) rfl (Opd.func _) (oS (oT rfl) (oS (oT rfl) (oS (oT rfl) Opds.nil)))) ?_
    refine za ?_
    refine zi ?_
    refine zi ?_
    refine zd ?_
    refine zd ?_
    refine zc ?_
    refine nK2 ?_
    refine s_draw mixed ?_
    refine zj ?_
    refine za ?_
    refine rpZ 77 rfl (op_idx_fz e.t.toNat rfl (oT rfl) (oT rfl) (by intro _; exact ⟨by omega, hrt⟩)) ?_
    refine zj ?_
    refine zby ?_
    refine za ?_
    refine rkZ 81 rfl rfl tG (op_load1_flat rfl (oT rfl) tH rfl) ?_
    refine zf ?_
    refine zbs ?_
    refine zcu ?_
    refine zf ?_
    refine rgZ 86 rfl rfl tG (op_idx_fz e.t.toNat rfl (oO rfl tO) (oO rfl tO) (by intro _; exact ⟨by omega, hrt⟩)) ?_
    refine zw ?_
    refine zbo ?_
    refine zt ?_
    refine zs ?_
    refine nK2 ?_
    refine n_cond _ rfl (fun hb => ?_) (fun hb => ?_)
    ·have hc : 0 ≤ gt0 d e.t.toNat ∧ kx + e.c = gt0 d e.t.toNat := by simpa using hb
     unfold lrE at hst2 hR2
     rw [if_pos hc] at hst2 hR2
     refine nK2 ?_
     refine zb ?_
     refine za ?_
     refine za ?_
     refine zj ?_
     refine za ?_
     refine rpZ 94 rfl (op_idx_fz e.t.toNat rfl (oT rfl) (oT rfl) (by intro _; exact ⟨by omega, hrt⟩)) ?_
     refine zj ?_
     refine Run.eff (dd := some 96) rfl rfl (op_call (n := 4) (n' := 5) [2, 5, 3, 4] (fun _ => hset) rfl (Opd.func _) (oS (oT rfl) (oS (oT rfl) (oS (oT rfl) Opds.nil))) rfl rfl (Lent.of rfl rfl (by exact ⟨⟨rfl, rfl, rfl, tL⟩, ⟨rfl, rfl, rfl, trivial⟩, ⟨rfl, rfl, rfl, trivial⟩, ⟨rfl, rfl, rfl, trivial⟩, trivial⟩) rfl) rfl rfl rfl rfl rfl) ?_
     refine zc ?_
     refine nK2 ?_
     refine zb ?_
     refine zl ?_
     refine za ?_
     refine zc ?_
     refine nK2 ?_
     refine Next.weak [0, 1, 2, 3, 4, 8, 6, 7] [] (by rfl) (keepsN hC _ rfl) wG wR wN (hK3 _ hst2 hR2)
    have hc : ¬ (0 ≤ gt0 d e.t.toNat ∧ kx + e.c = gt0 d e.t.toNat) := by simpa using hb
    unfold lrE at hst2 hR2
    rw [if_neg hc] at hst2 hR2
    refine nK2 ?_
    refine zb ?_
    refine zl ?_
    refine za ?_
    refine zc ?_
    refine nK2 ?_
    refine Next.weak [0, 1, 2, 3, 4, 5, 6, 7] [] (by rfl) (keepsN hC _ rfl) wG wR wN (hK3 _ hst2 hR2)
   have hje : j = L.length := by have := of_decide_eq_false hb; omega
   rw [hje, List.drop_length] at hJ2 hR2
   have hJo := hJ2.hg.hi
   have hJl := hJ2.hl
   have hJs := hJo.small
   have hpop := pop_c h2 hJo (by omega)
   refine nK2 ?_
   refine zb ?_
   refine zh ?_
   refine zc ?_
   refine nK2 ?_
   refine zb ?_
   refine zu ?_
   refine zr ?_
   refine zc ?_
   refine nK2 ?_
   refine zb ?_
   refine za ?_
   refine Run.eff (dd := some 42) rfl rfl (op_call (n := 4) (n' := 5) [2, 5, 3, 4] (fun _ => hpop) rfl (Opd.func _) (oS (oT rfl) Opds.nil) rfl rfl (Lent.of rfl rfl (by exact ⟨⟨rfl, rfl, rfl, tL⟩, ⟨rfl, rfl, rfl, trivial⟩, ⟨rfl, rfl, rfl, trivial⟩, ⟨rfl, rfl, rfl, trivial⟩, trivial⟩) rfl) rfl rfl rfl rfl rfl) ?_
   refine za ?_
   refine zi ?_
   refine zi ?_
   refine zi ?_
   refine zd ?_
   refine zr ?_
   refine zd ?_
   refine zc ?_
   refine nK2 ?_
   refine Next.weak [0, 1, 2, 3, 4, 9, 8, 7] [] (by rfl) (keepsN hC _ rfl) wG wR wN (hK4 h2 hJ2 hR2)
 have hz : h.it.length = 0 := by simp [popB] at hb; simp [hb]
 rw [lostF_stop hz] at hRs
 subst hRs
 have hsmJ := hJ.small
 refine nK2 ?_
 refine zb ?_
 refine za ?_
 refine zd ?_
 refine zc ?_
 refine nK2 ?_
 refine Next.weakS [] [8] (by rfl) (keeps0 hC _) (G' := [(8, .fz (VI out))]) (H' := []) wF trivial rfl ?_
 exact n_out1 rfl (by rfl) rfl rfl
end Go.Proofs.YtcillieggklaaaaGreat
namespace Go.Pl
open Go Go.RT
set_option linter.all false
def lessP (d : List Int) (c : Edg) : Prop := 0 ≤ c.c ∧ (gt0 d c.t.toNat < 0 ∨ gt0 d c.f.toNat + c.c < gt0 d c.t.toNat)
instance (d : List Int) (c : Edg) : Decidable (lessP d c) := by unfold lessP; infer_instance
def moreP (d : List Int) (c : Edg) (old : Int) : Prop := (0 ≤ old ∧ gt0 d c.f.toNat + old = gt0 d c.t.toNat) ∧ (c.c < 0 ∨ old < c.c)
instance (d : List Int) (c : Edg) (old : Int) : Decidable (moreP d c old) := by unfold moreP; infer_instance
def lostL (es : List Edg) (n : Nat) (d : List Int) (v : Nat) : List Int := lostF es d ((n + 2) * (n + 2)) (List.replicate n false) [] (setH (newH n) v (gt0 d v))
def stD (es : List Edg) (n : Nat) (d : List Int) (c : Edg) (old : Int) : List Int := if lessP d c then d else if moreP d c old then negL d (lostL es n d c.t.toNat) else d
def stH (es : List Edg) (n : Nat) (d : List Int) (c : Edg) (old : Int) : Hq := if lessP d c then setH (newH n) c.t.toNat (gt0 d c.f.toNat + c.c) else if moreP d c old then (lostL es n d c.t.toNat).foldl (qV es (negL d (lostL es n d c.t.toNat))) (newH n) else newH n
theorem lostM_start {es : List Edg} {n a : Nat} {d : List Int} {q : Hq} {gone : List Bool} (o : LJ es n a d gone [] q []) : lostM n [] q < (n + 2) * (n + 2) := by
  have := o.small.1
  unfold lostM
  simp only [List.length_nil, Nat.sub_zero]
  have e : (n + 2) * (n + 2) = n * (n + 1) + (3 * n + 4) := by
    have : (n + 2) * (n + 2) = n * n + 4 * n + 4 := by
      rw [Nat.add_mul, Nat.mul_add]; omega
    rw [this, Nat.mul_add]; omega
  omega
theorem lost_ok {es es' : List Edg} {r n a : Nat} {d : List Int} {c : Edg} {old : Int} (har : a < r) (R : ChRel es es' c old) (vg : VG es r n) (vg' : VG es' r n) (dl : d.length = n) (h : Fx es n a d) (hcn : c.t.toNat < n ∧ 0 ≤ c.t) (hf0 : 0 ≤ gt0 d c.f.toNat) (hta : c.t ≠ (a : Int)) (hm : moreP d c old) :
    LJ es' n a d (List.replicate n false) [] (setH (newH n) c.t.toNat (gt0 d c.t.toNat)) [] ∧ LostOk es' n a d (lostL es' n d c.t.toNat) := by
  have o := step_more har R vg vg' dl h hcn hf0 hta hm.1.1 hm.1.2
  exact ⟨o, LJ.run (dp_of har vg vg' dl h) _ (lostM_start o) o⟩
theorem fx_SJ {es : List Edg} {n a : Nat} {d : List Int} (dl : d.length = n) (hb : ∀ v, v < n → gt0 d v ≤ 8388480) (h : Fx es n a d) : SJ es n a topB d (newH n) [] 0 [] :=
  ⟨HG.new n, by simp [newH], dl, h.root, h.neg, fun v hv hva h0 => by
    obtain ⟨e, he, ht, hf, hs⟩ := h.sup v hv hva h0
    exact .inr ⟨e, he, ht, hf, by omega⟩, fun v hv hp => by rw [newH_place hv] at hp; omega, fun e he h0 => .inr (.inl (h.fix e he h0)), by simp, by simp, by simp, fun v hv => by have := hb v hv; simp only [List.length_nil, topB]; omega, by decide⟩
theorem step_SJ {es es' : List Edg} {r n a : Nat} {d : List Int} {c : Edg} {old : Int} (har : a < r) (ha : a < n) (R : ChRel es es' c old) (vg : VG es r n) (vg' : VG es' r n) (dl : d.length = n) (hb : ∀ v, v < n → gt0 d v ≤ 8388480) (h : Fx es n a d) (hcf : c.f.toNat < n) (hcn : c.t.toNat < n ∧ 0 ≤ c.t)
    (hfar : ¬ (gt0 d c.f.toNat < 0 ∨ c.t = (a : Int))) : SJ es' n a topB (stD es' n d c old) (stH es' n d c old) [] 0 [] := by
  have hf0 : 0 ≤ gt0 d c.f.toNat := by omega
  have hta : c.t ≠ (a : Int) := fun e => hfar (.inr e)
  unfold stD stH
  by_cases h1 : lessP d c
  · rw [if_pos h1, if_pos h1]
    exact step_less R vg vg' dl hb h hcn hf0 hcf hta h1.1 h1.2
  · rw [if_neg h1, if_neg h1]
    by_cases h2 : moreP d c old
    · rw [if_pos h2, if_pos h2]
      exact step_queue har ha R vg vg' dl hb h h2.2 h2.1.2 h2.1.1 (lost_ok har R vg vg' dl h hcn hf0 hta h2).2
    · rw [if_neg h2, if_neg h2]
      exact fx_SJ dl hb (step_no R vg h hf0 h1 h2)
theorem dist_uniq {es : List Edg} {n a : Nat} {d D : List Int} (dl : d.length = n) (Dl : D.length = n) (h1 : ∀ v, v < n → IsD es a v (gt0 d v)) (h2 : ∀ v, v < n → IsD es a v (gt0 D v)) : d = D := by
  apply List.ext_getElem (by omega)
  intro v h3 h4
  have := (h1 v (by omega)).uniq (h2 v (by omega))
  simpa [gt0, List.getD_eq_getElem?_getD, h3, h4] using this
theorem stepD_end {es' : List Edg} {r n a : Nat} {d D : List Int} {h : Hq} (vg' : VG es' r n) (o : SJ es' n a topB d h [] 0 []) (Dl : D.length = n) (hD : ∀ v, v < n → IsD es' a v (gt0 D v)) : (setF es' (n + 1) d h).1 = D := by
  obtain ⟨h1, h2⟩ := SJ.run vg' (n + 1) (by simp) o
  exact dist_uniq h2 Dl (h1.isD vg') hD
theorem negL_step (d : List Int) {L : List Int} {j : Nat} (h : j < L.length) : (negL d (L.take j)).set L[j].toNat (-1) = negL d (L.take (j + 1)) := by
  unfold negL
  rw [List.take_succ_eq_append_getElem h, List.foldl_append]; rfl
end Go.Pl
namespace Go.Proofs.YtcillieggklaaaaGreat
open Go Go.RT Go.Proofs Go.Pl
set_option linter.all false
set_option maxRecDepth 20000
set_option maxHeartbeats 4000000
theorem clonei_c (l : List Int) (hn : l.length ≤ 2000000) : Meets Tryz.prog 27 ([VI l].map PV.fz) 0 [] (.sl 0 1 0 l.length) [(0, OI l)] 1 := by
 refine Meets.intro Tryz.func27 rfl (Nat.le_of_ble_eq_true rfl) fun C hC => ?_
 simp only [List.map, argEnv, Nat.reduceAdd]
 refine nK2 ?_
 refine zb ?_
 refine ze ?_
 refine zc ?_
 refine nK2 ?_
 refine zb ?_
 refine za ?_
 refine rpZ 4 rfl (op_eqnil rfl (oT rfl)) ?_
 refine zc ?_
 refine nK2 ?_
 refine Next.abool 4 rfl (fun b hb0 => ?_)
 refine nK2 ?_
 refine n_cond _ rfl (fun hb => ?_) (fun hb => ?_)
 ·have he : l = [] := by have := hb0 hb; simpa using this
  subst he
  refine nK2 ?_
  refine zb ?_
  refine ze ?_
  refine zc ?_
  refine nK2 ?_
  refine Next.adopt 2 1 rfl ?_
  exact wO hC
 refine nK2 ?_
 refine zb ?_
 refine zct ?_
 refine za ?_
 refine Run.eff (dd := some 7) rfl rfl (op_append rfl (oT rfl) (oT rfl) rfl rfl rfl rfl tB tB) ?_
 refine zd ?_
 refine zc ?_
 refine nK2 ?_
 refine Next.weakS [2] [] (by rfl) (keeps0 hC _) (G' := [(2, .sl 0 1 0 l.length)]) (H' := [(0, OI l)]) wG (by repeat (first | exact trivial | refine ⟨wS, ?_⟩ | refine ⟨ent_same rfl rfl (rfEq rfl tU) tL, ?_⟩ | refine ⟨ent_same rfl rfl (flEq rfl (by first | (simp; done) | (simp; omega) | (simp [encE, encN, encB, encT]; done) | simp [maxC, minC])) trivial, ?_⟩)) rfl ?_
 exact wO hC
theorem step_c (g : Gr) (hg : checkI g = 0) (es : List Edg) (r a : Nat) (d D : List Int) (c : Edg) (old : Int) (har : a < r) (ha : a < g.m) (R : ChRel es g.es c old) (vg0 : VG es r g.m) (vg1 : VG g.es r g.m) (dl : d.length = g.m) (hbd : ∀ v, v < g.m → -1 ≤ gt0 d v ∧ gt0 d v ≤ 8388480) (h : Fx es g.m a d)
  (hcf : 0 ≤ c.f ∧ c.f < g.m) (hct : 0 ≤ c.t ∧ c.t < g.m) (hcc : inr .i64 c.c ∧ c.c ≤ 65535) (hold : -1 ≤ old ∧ old ≤ 65535) (Dl : D.length = g.m) (hD : ∀ v, v < g.m → IsD g.es a v (gt0 D v)) :
  Pure Tryz.prog 29 [.agg (encG g), If .i64 (a : Int), VI d, .agg (encE c), If .i64 old] (VI D) := by
 have hm128 : g.m ≤ 128 := vg1.n128
 have hel := vg1.e1024
 have hasc := vg1.asc
 have hcl := clonei_c d (by omega)
 have hnew := new_c d.length (by omega)
 have hinto := into_c g hg
 have hrf := row_at' encN d c.f.toNat (by omega)
 have hrt := row_at' encN d c.t.toNat (by omega)
 have hdf : d[c.f.toNat] = gt0 d c.f.toNat := by unfold gt0; rw [List.getD_eq_getElem?_getD, List.getElem?_eq_getElem]; rfl
 have hdt : d[c.t.toNat] = gt0 d c.t.toNat := by unfold gt0; rw [List.getD_eq_getElem?_getD, List.getElem?_eq_getElem]; rfl
 rw [hdf] at hrf
 rw [hdt] at hrt
 have hbf := hbd c.f.toNat (by omega)
 have hbt := hbd c.t.toNat (by omega)
 have hlost := fun f0 h1 h2 h3 h4 => lost_c g hg a c.t.toNat d f0 h1 h2 h3 h4
 have hset5' := fun d0 q0 f0 S0 b0 h1 h2 => settle5_c g hg a d0 q0 f0 S0 b0 h1 h2
 clear hdf hdt
 generalize hmn : g.m = n at *
 subst dl
 refine Meets.intro Tryz.func29 rfl (Nat.le_of_ble_eq_true rfl) fun C hC => ?_
 simp only [List.map, argEnv, Nat.reduceAdd]
 refine nK2 ?_
 refine zb ?_
 refine zq ?_
 refine zq ?_
 refine ze ?_
 refine zc ?_
 refine nK2 ?_
 refine Next.weakS [] [5, 8] (by rfl) (keepsN hC _ rfl) (G' := [(1, IV .i64 a), (2, .fz (VI d)), (4, IV .i64 old), (5, .fz (.cellp (encG g))), (8, .fz (.cellp (encE c)))]) (H' := []) wF trivial rfl ?_
 refine nK2 ?_
 refine zb ?_
 refine za ?_
 refine Run.eff (dd := some 25) rfl rfl (op_call_fresh (fun _ => hcl) rfl (Opd.func _) (oS (oT rfl) Opds.nil)) ?_
 refine zd ?_
 refine zc ?_
 refine nK2 ?_
 refine zb ?_
 refine za ?_
 refine zx ?_
 refine zj ?_
 refine rpZ 29 rfl (op_idx_fz c.f.toNat rfl (oT rfl) (oT rfl) (by intro _; exact ⟨by omega, hrf⟩)) ?_
 refine zj ?_
 refine zbn ?_
 refine za ?_
 refine zbq ?_
 refine zw ?_
 refine zf ?_
 refine zbo ?_
 refine zv ?_
 refine zc ?_
 refine nK2 ?_
 refine n_cond _ rfl (fun hb => ?_) (fun hb => ?_)
 ·have hfar : gt0 d c.f.toNat < 0 ∨ c.t = (a : Int) := by simpa using hb
  have hdD : d = D := dist_uniq rfl Dl ((step_far R vg0 h hfar).isD vg1) hD
  subst hdD
  refine nK2 ?_
  refine zb ?_
  refine za ?_
  refine zd ?_
  refine zc ?_
  refine nK2 ?_
  refine Next.weakS [] [10] (by rfl) (keeps0 hC _) (G' := [(10, .fz (VI d))]) (H' := []) wF trivial rfl ?_
  exact n_out1 rfl (by rfl) rfl rfl
 have hfar : ¬ (gt0 d c.f.toNat < 0 ∨ c.t = (a : Int)) := by simpa using hb
 have hSJ := step_SJ har ha R vg0 vg1 rfl (fun v hv => (hbd v hv).2) h (by omega) (by omega) hfar
 have hend := stepD_end vg1 hSJ Dl hD
 have hset5 := hset5' _ _ (d.length + 1) [] 0 (by simp) hSJ
 rw [hend] at hset5
 have hok := hSJ.hg.hi
 refine nK2 ?_
 refine zb ?_
 refine za ?_
 refine zo ?_
 refine Run.eff (dd := some 41) rfl rfl (op_call (n := 0) (n' := 4) [] (fun _ => hnew) rfl (Opd.func _) (oS (oT rfl) Opds.nil) rfl rfl (Lent.of rfl rfl trivial rfl) rfl rfl rfl rfl rfl) ?_
 refine zd ?_
 refine zc ?_
 refine nK2 ?_
 refine zb ?_
 refine za ?_
 refine zx ?_
 refine zj ?_
 refine rpZ 45 rfl (op_idx_fz c.f.toNat rfl (oT rfl) (oT rfl) (by intro _; exact ⟨by omega, hrf⟩)) ?_
 refine zj ?_
 refine zd ?_
 refine zc ?_
 refine nK2 ?_
 refine Next.weak [0, 1, 2, 3, 4] [] (by rfl) (keepsN hC _ rfl) (G' := [(1, IV .i64 a), (2, .fz (VI d)), (4, IV .i64 old), (5, .fz (.cellp (encG g))), (8, .fz (.cellp (encE c))), (11, .sl 0 1 0 d.length), (12, .ptr 1 3 0 0), (13, IV .i64 (gt0 d c.f.toNat))]) (H' := HDS d (newH d.length)) wG wR wN ?_
 refine nK2 ?_
 refine s_draw mixed ?_
 refine zx ?_
 refine zj ?_
 refine zby ?_
 refine za ?_
 refine zf ?_
 refine zbq ?_
 refine zw ?_
 refine rgZ 55 rfl rfl tG (op_idx_fz c.t.toNat rfl (oO rfl tO) (oO rfl tO) (by intro _; exact ⟨by omega, hrt⟩)) ?_
 refine zw ?_
 refine zcc ?_
 refine zbp ?_
 refine zf ?_
 refine zbq ?_
 refine zw ?_
 refine zbs ?_
 refine zf ?_
 refine zbq ?_
 refine zw ?_
 refine rgZ 66 rfl rfl tG (op_idx_fz c.t.toNat rfl (oO rfl tO) (oO rfl tO) (by intro _; exact ⟨by omega, hrt⟩)) ?_
 refine zw ?_
 refine zbk ?_
 refine zcd ?_
 refine zt ?_
 refine zd ?_
 refine zs ?_
 refine nK2 ?_
 refine n_joinB [(5, .fz (.cellp (encG g))), (11, .sl 0 1 0 d.length), (12, .ptr 1 3 0 0)] (HDS (stD g.es d.length d c old) (stH g.es d.length d c old)) 5 ?_ ?_
 ·refine nK2 ?_
  refine n_cond _ rfl (fun hb => ?_) (fun hb => ?_)
  ·have hl : lessP d c := by simpa [lessP] using hb
   have hl0 := hl.1
   have hs := set_i (newH d.length) (HG.new _).hi c.t c.t.toNat (gt0 d c.f.toNat + c.c) (by omega) (by simp [newH]; omega) (by simp [newH])
   have e1 : stD g.es d.length d c old = d := by unfold stD; rw [if_pos hl]
   have e2 : stH g.es d.length d c old = setH (newH d.length) c.t.toNat (gt0 d c.f.toNat + c.c) := by unfold stH; rw [if_pos hl]
   rw [e1, e2]
   refine nK2 ?_
   refine zb ?_
   refine za ?_
   refine zx ?_
   refine zj ?_
   refine za ?_
   refine zx ?_
   refine zj ?_
   refine zbc ?_
   refine Run.eff (dd := some 78) rfl rfl (op_call (n := 4) (n' := 5) [1, 2, 3, 4] (fun _ => hs) rfl (Opd.func _) (oS (oT rfl) (oS (oT rfl) (oS (oT rfl) Opds.nil))) rfl rfl (Lent.of rfl rfl (by exact ⟨⟨rfl, rfl, rfl, tL⟩, ⟨rfl, rfl, rfl, trivial⟩, ⟨rfl, rfl, rfl, trivial⟩, ⟨rfl, rfl, rfl, trivial⟩, trivial⟩) rfl) rfl rfl rfl rfl rfl) ?_
   refine zc ?_
   refine nK2 ?_
   refine Next.weak [0, 1, 5, 3, 4] [] (by rfl) (keepsN hC _ rfl) wG wR wN rel_intro
  have hl : ¬ lessP d c := by simpa [lessP] using hb
  refine nK2 ?_
  refine zb ?_
  refine za ?_
  refine zby ?_
  refine za ?_
  refine zf ?_
  refine zf ?_
  refine zbs ?_
  refine zf ?_
  refine zbq ?_
  refine zw ?_
  refine rgZ 89 rfl rfl tG (op_idx_fz c.t.toNat rfl (oO rfl tO) (oO rfl tO) (by intro _; exact ⟨by omega, hrt⟩)) ?_
  refine zw ?_
  refine zbo ?_
  refine zt ?_
  refine za ?_
  refine zbq ?_
  refine zw ?_
  refine zcc ?_
  refine zbp ?_
  refine zbq ?_
  refine zw ?_
  refine zf ?_
  refine zda ?_
  refine zcd ?_
  refine zt ?_
  refine zd ?_
  refine zc ?_
  refine nK2 ?_
  refine n_cond _ rfl (fun hb => ?_) (fun hb => ?_)
  ·have hm : moreP d c old := by simpa [moreP] using hb
   obtain ⟨o1, o2⟩ := lost_ok har R vg0 vg1 rfl h ⟨by omega, hct.1⟩ (by omega) (fun e => hfar (.inr e)) hm
   have hlo := hlost ((d.length + 2) * (d.length + 2)) (dp_of har vg0 vg1 rfl h) (fun v hv => (hbd v hv).2) (by omega) o1 (lostM_start o1)
   have hct2 : ((c.t.toNat : Nat) : Int) = c.t := by omega
   rw [hct2] at hlo
   have e1 : stD g.es d.length d c old = negL d (lostL g.es d.length d c.t.toNat) := by unfold stD; rw [if_neg hl, if_pos hm]
   have e2 : stH g.es d.length d c old = (lostL g.es d.length d c.t.toNat).foldl (qV g.es (negL d (lostL g.es d.length d c.t.toNat))) (newH d.length) := by unfold stH; rw [if_neg hl, if_pos hm]
   rw [e1, e2]
   change RT.Pure _ _ _ (VI (lostL g.es d.length d c.t.toNat)) at hlo
   clear e1 e2 hset5 hset5' hSJ hend hok hlost
   generalize lostL g.es d.length d c.t.toNat = L at *
   obtain ⟨ol1, ol2, ol3⟩ := o2
   refine nK2 ?_
   refine zb ?_
   refine zbf ?_
   refine rpZ 105 rfl (op_call_pure (fun _ => hinto) rfl (Opd.func _) (oS (oT rfl) Opds.nil)) ?_
   refine zd ?_
   refine zc ?_
   refine nK2 ?_
   refine zb ?_
   refine zbf ?_
   refine za ?_
   refine za ?_
   refine zx ?_
   refine zj ?_
   refine rpZ 111 rfl (op_call_pure (fun _ => hlo) rfl (Opd.func _) (oS (oT rfl) (oS (oT rfl) (oS (oT rfl) (oS (oT rfl) Opds.nil))))) ?_
   refine zd ?_
   refine zc ?_
   refine nK2 ?_
   refine zb ?_
   refine za ?_
   refine zo ?_
   refine zbb ?_
   refine zc ?_
   refine nK2 ?_
   refine Next.weak [0, 1, 2, 3, 4] [] (by rfl) (keepsN hC _ rfl) (G' := [(5, .fz (.cellp (encG g))), (11, .sl 0 1 0 d.length), (12, .ptr 1 3 0 0), (14, .fz (.vals 1 (fzL 3 (rowsN g.es d.length)))), (15, .fz (VI L)), (112, .fz (VI L)), (113, IV .i64 L.length), (114, IV .i64 0)]) (H' := HDS d (newH d.length)) wG wR wN ?_
   have hLn : ∀ x ∈ L, 0 ≤ x ∧ x < d.length := fun x hx => ⟨(ol2 x hx).1, (ol2 x hx).2.1⟩
   refine nK2 ?_
   refine n_loop (ι := Nat) (fun j => ([(5, .fz (.cellp (encG g))), (11, .sl 0 1 0 d.length), (12, .ptr 1 3 0 0), (14, .fz (.vals 1 (fzL 3 (rowsN g.es d.length)))), (15, .fz (VI L)), (112, .fz (VI L)), (113, IV .i64 L.length), (114, IV .i64 j)], HDS (negL d (L.take j)) (newH d.length), 5)) (fun j => j ≤ L.length) (fun j => L.length - j) 0 (Nat.zero_le _) ?_ ?_
   ·refine Next.weak [0, 1, 2, 3, 4] [] (by rfl) (keepsN hC _ rfl) wG wR wN rel_intro
   intro j hj K hK
   try dsimp only at hj hK ⊢
   refine nK2 ?_
   refine zb ?_
   refine zp ?_
   refine zc ?_
   refine nK2 ?_
   refine n_cond _ rfl (fun hb => ?_) (fun hb => ?_)
   ·have hlt : j < L.length := by have := of_decide_eq_true hb; omega
    have hr1 := row_at' encN L j hlt
    have hLj := hLn _ (List.getElem_mem hlt)
    have hK1 := hK (j + 1) (by omega) (by omega)
    rw [← negL_step d hlt] at hK1
    have hnl := negL_len (L.take j) d
    generalize negL d (L.take j) = dn at *
    generalize L[j] = x at *
    have hrx := row_of encN dn x.toNat 0 (by omega)
    refine nK2 ?_
    refine zb ?_
    refine zz ?_
    refine zj ?_
    refine zd ?_
    refine zc ?_
    refine nK2 ?_
    refine zb ?_
    refine za ?_
    refine za ?_
    refine rpZ 120 rfl (op_idx_sl0 x.toNat rfl (oT rfl) (oT rfl) (by intro _; omega)) ?_
    refine Run.eff (dd := none) rfl rfl (op_store_flat rfl (oT rfl) oC tC rfl rfl hrx tS) ?_
    refine zc ?_
    refine nK2 ?_
    refine zb ?_
    refine zl ?_
    refine za ?_
    refine zc ?_
    refine nK2 ?_
    refine Next.weak [0, 1, 2, 3, 4] [] (by rfl) (keepsN hC _ rfl) wG (by exact ⟨ent_same rfl rfl (flEq rfl (by rw [List.map_set]; rfl)) trivial, ⟨wS, ⟨wS, ⟨wS, ⟨wS, trivial⟩⟩⟩⟩⟩) wN hK1
   have hje : j = L.length := by have := of_decide_eq_false hb; omega
   subst hje
   rw [List.take_length]
   have hnl := negL_len L d
   have hdnb : ∀ v, v < d.length → -1 ≤ gt0 (negL d L) v ∧ gt0 (negL d L) v ≤ 8388480 := fun v hv => by
    rw [negL_get L d rfl hLn v]
    have := hbd v hv
    split <;> omega
   have hQ0 := QJ.start g.es d.length (negL d L) L hLn
   generalize hQR : L.foldl (qV g.es (negL d L)) (newH d.length) = QR
   generalize negL d L = dn at *
   refine nK2 ?_
   refine zb ?_
   refine za ?_
   refine zo ?_
   refine zbb ?_
   refine zc ?_
   refine nK2 ?_
   refine n_loop (ι := Nat × Hq) (fun s => ([(5, .fz (.cellp (encG g))), (11, .sl 0 1 0 d.length), (12, .ptr 1 3 0 0), (14, .fz (.vals 1 (fzL 3 (rowsN g.es d.length)))), (122, .fz (VI L)), (123, IV .i64 L.length), (124, IV .i64 s.1)], HDS dn s.2, 5)) (fun s => s.1 ≤ L.length ∧ QJ g.es d.length dn L s.2 [] (L.drop s.1) ∧ (L.drop s.1).foldl (qV g.es dn) s.2 = QR) (fun s => L.length - s.1) (0, newH d.length) ⟨Nat.zero_le _, hQ0, hQR⟩ ?_ ?_
   ·refine Next.weak [0, 1, 2, 3, 4] [] (by rfl) (keepsN hC _ rfl) wG wR wN rel_intro
   intro ⟨j, h2⟩ ⟨hj, hJ2, hR2⟩ K2 hK2
   try dsimp only at hj hJ2 hR2 hK2 ⊢
   refine nK2 ?_
   refine zb ?_
   refine zp ?_
   refine zc ?_
   refine nK2 ?_
   refine n_cond _ rfl (fun hb => ?_) (fun hb => ?_)
   ·have hlt : j < L.length := by have := of_decide_eq_true hb; omega
    have hr1 := row_at' encN L j hlt
    have hLj := hLn _ (List.getElem_mem hlt)
    have hxm := List.getElem_mem hlt
    rw [List.drop_eq_getElem_cons hlt] at hJ2 hR2
    rw [List.foldl_cons] at hR2
    have hK3 := fun h3 hh hh2 => hK2 (j + 1, h3) ⟨by dsimp only; omega, hh, hh2⟩ (by dsimp only; omega)
    dsimp only at hK3
    generalize L[j] = x at *
    have hJn := (hJ2.node hLj hxm).1
    have hex : ((x.toNat : Nat) : Int) = x := by omega
    have hrE := fzL_get (sz := 3) (rowsN_get g.es (n := d.length) (v := x.toNat) (by omega))
    have hRl := inE_len g.es x.toNat
    have hRin : ∀ e ∈ inE g.es x.toNat, e ∈ g.es ∧ e.t = (x.toNat : Int) := fun e he => by simpa [inE] using he
    unfold qV at hR2
    generalize inE g.es x.toNat = Rw at *
    refine nK2 ?_
    refine zb ?_
    refine zz ?_
    refine zj ?_
    refine zd ?_
    refine zc ?_
    refine nK2 ?_
    refine zb ?_
    refine za ?_
    refine za ?_
    refine rpZ 130 rfl (op_idx_fz x.toNat rfl (oT rfl) (oT rfl) (by intro _; exact ⟨by omega, hrE⟩)) ?_
    refine zj ?_
    refine zo ?_
    refine zbb ?_
    refine zc ?_
    refine nK2 ?_
    refine n_loop (ι := Nat × Hq) (fun s => ([(5, .fz (.cellp (encG g))), (11, .sl 0 1 0 d.length), (12, .ptr 1 3 0 0), (14, .fz (.vals 1 (fzL 3 (rowsN g.es d.length)))), (122, .fz (VI L)), (123, IV .i64 L.length), (124, IV .i64 j), (19, IV .i64 x), (131, .fz (VE Rw)), (132, IV .i64 Rw.length), (133, IV .i64 s.1)], HDS dn s.2, 5)) (fun s => s.1 ≤ Rw.length ∧ QJ g.es d.length dn L s.2 (Rw.drop s.1) (L.drop (j + 1)) ∧ (L.drop (j + 1)).foldl (qV g.es dn) ((Rw.drop s.1).foldl (qE dn x.toNat) s.2) = QR) (fun s => Rw.length - s.1) (0, h2) ⟨Nat.zero_le _, hJn, hR2⟩ ?_ ?_
    ·refine Next.weak [0, 1, 2, 3, 4] [] (by rfl) (keepsN hC _ rfl) wG wR wN rel_intro
    intro ⟨i, h4⟩ ⟨hi, hJ4, hR4⟩ K4 hK4
    try dsimp only at hi hJ4 hR4 hK4 ⊢
    refine nK2 ?_
    refine zb ?_
    refine zp ?_
    refine zc ?_
    refine nK2 ?_
    refine n_cond _ rfl (fun hb => ?_) (fun hb => ?_)
    ·have hlt2 : i < Rw.length := by have := of_decide_eq_true hb; omega
     have hr2 := row_at' encE Rw i hlt2
     obtain ⟨he, het⟩ := hRin _ (List.getElem_mem hlt2)
     rw [List.drop_eq_getElem_cons hlt2] at hJ4 hR4
     rw [List.foldl_cons] at hR4
     have hK5 := fun h3 hh hh2 => hK4 (i + 1, h3) ⟨by dsimp only; omega, hh, hh2⟩ (by dsimp only; omega)
     dsimp only at hK5
     generalize Rw[i] = e at *
     have hef := vg1.f e he
     have hec := vg1.c e he
     have hJo := hJ4.hg.hi
     have hJl := hJ4.hl
     have hJs := hJo.small
     have hkey := key_i h4 hJo.ok x x.toNat (by omega) (by omega)
     have hrf2 := row_of encN dn e.f.toNat 0 (by omega)
     have hgf : dn.getD e.f.toNat 0 = gt0 dn e.f.toNat := rfl
     rw [hgf] at hrf2
     have hbf2 := hdnb e.f.toNat (by omega)
     have hst := hJ4.step he (by rw [hex]; omega) (by omega) (by rw [hex]; exact hxm)
     have hset := set_i h4 hJo x x.toNat (gt0 dn e.f.toNat + e.c) (by omega) (by omega) (by omega)
     refine nK2 ?_
     refine zb ?_
     refine zz ?_
     refine zbf ?_
     refine zu ?_
     refine zr ?_
     refine zc ?_
     refine nK2 ?_
     refine zb ?_
     refine za ?_
     refine za ?_
     refine rlZ 140 rfl (op_call_read (n := 4) [1, 2, 3, 4] (fun _ => hkey) rfl (Opd.func _) (oS (oT rfl) (oS (oT rfl) Opds.nil)) rfl rfl (Lent.of rfl rfl (by exact ⟨⟨rfl, rfl, rfl, tL⟩, ⟨rfl, rfl, rfl, trivial⟩, ⟨rfl, rfl, rfl, trivial⟩, ⟨rfl, rfl, rfl, trivial⟩, trivial⟩) rfl) rfl) ?_
     refine za ?_
     refine zi ?_
     refine zi ?_
     refine zd ?_
     refine zd ?_
     refine zc ?_
     refine nK2 ?_
     refine s_draw mixed ?_
     refine za ?_
     refine zg ?_
     refine zh ?_
     refine rpZ 146 rfl (op_idx_sl0 e.f.toNat rfl (oT rfl) (oT rfl) (by intro _; omega)) ?_
     refine rlZ 147 rfl (op_load1_flat rfl (oT rfl) (by intro _; exact ⟨rfl, hrf2⟩) rfl) ?_
     refine zby ?_
     refine za ?_
     refine zf ?_
     refine zbl ?_
     refine zbp ?_
     refine zf ?_
     refine zn ?_
     refine zm ?_
     refine rgZ 156 rfl rfl tG (op_idx_sl0 e.f.toNat rfl (oO rfl tO) (oO rfl tO) (by intro _; omega)) ?_
     refine rkZ 157 rfl rfl tG (op_load1_flat rfl (oO rfl tO) (by intro _; exact ⟨rfl, hrf2⟩) rfl) ?_
     refine zn ?_
     refine zm ?_
     refine zbs ?_
     refine zf ?_
     refine zbk ?_
     refine zcd ?_
     refine zt ?_
     refine zs ?_
     refine nK2 ?_
     refine n_cond _ rfl (fun hb => ?_) (fun hb => ?_)
     ·have hc : 0 ≤ gt0 dn e.f.toNat ∧ (h4.place x.toNat < 0 ∨ gt0 dn e.f.toNat + e.c < h4.key x.toNat) := by
       simp only [Bool.and_eq_true, Bool.or_eq_true, Bool.not_eq_true', decide_eq_true_eq, decide_eq_false_iff_not] at hb
       refine ⟨hb.1, ?_⟩
       rcases hb.2 with h5 | h5
       ·exact .inl (by omega)
       by_cases h6 : 0 ≤ h4.place x.toNat
       ·rw [if_pos h6] at h5; exact .inr h5
       exact .inl (by omega)
      unfold qE at hst hR4
      rw [if_pos hc] at hst hR4
      refine nK2 ?_
      refine s_draw mixed ?_
      refine za ?_
      refine za ?_
      refine za ?_
      refine zg ?_
      refine zh ?_
      refine rpZ 170 rfl (op_idx_sl0 e.f.toNat rfl (oT rfl) (oT rfl) (by intro _; omega)) ?_
      refine rlZ 171 rfl (op_load1_flat rfl (oT rfl) (by intro _; exact ⟨rfl, hrf2⟩) rfl) ?_
      refine zg ?_
      refine zh ?_
      refine zbc ?_
      refine Run.effW (dd := some 175) rfl rfl (op_call (n := 4) (n' := 5) [1, 2, 3, 4] (fun _ => hset) rfl (Opd.func _) (oS (oT rfl) (oS (oT rfl) (oS (oT rfl) Opds.nil))) rfl rfl (Lent.of rfl rfl (by exact ⟨⟨rfl, rfl, rfl, tL⟩, ⟨rfl, rfl, rfl, trivial⟩, ⟨rfl, rfl, rfl, trivial⟩, ⟨rfl, rfl, rfl, trivial⟩, trivial⟩) rfl) rfl rfl rfl rfl rfl) (by first | exact ext_call | exact tE) ?_
      refine zs ?_
      refine nK2 ?_
      refine zb ?_
      refine zl ?_
      refine za ?_
      refine zc ?_
      refine nK2 ?_
      refine Next.weak [0, 1, 6, 3, 4] [] (by rfl) (keepsN hC _ rfl) wG wR wN (hK5 _ hst hR4)
     have hc : ¬ (0 ≤ gt0 dn e.f.toNat ∧ (h4.place x.toNat < 0 ∨ gt0 dn e.f.toNat + e.c < h4.key x.toNat)) := fun hc => by
      rw [Bool.eq_false_iff] at hb
      apply hb
      simp only [Bool.and_eq_true, Bool.or_eq_true, Bool.not_eq_true', decide_eq_true_eq, decide_eq_false_iff_not]
      refine ⟨hc.1, ?_⟩
      rcases hc.2 with h5 | h5
      ·exact .inl (by omega)
      by_cases h6 : 0 ≤ h4.place x.toNat
      ·rw [if_pos h6]; exact .inr h5
      exact .inl h6
     unfold qE at hst hR4
     rw [if_neg hc] at hst hR4
     refine nK2 ?_
     refine zb ?_
     refine zl ?_
     refine za ?_
     refine zc ?_
     refine nK2 ?_
     refine Next.weak [0, 1, 2, 3, 4] [] (by rfl) (keepsN hC _ rfl) wG wR wN (hK5 _ hst hR4)
    have hie : i = Rw.length := by have := of_decide_eq_false hb; omega
    rw [hie, List.drop_length] at hJ4 hR4
    refine nK2 ?_
    refine zb ?_
    refine zl ?_
    refine za ?_
    refine zc ?_
    refine nK2 ?_
    refine Next.weak [0, 1, 2, 3, 4] [] (by rfl) (keepsN hC _ rfl) wG wR wN (hK3 _ hJ4 hR4)
   have hje : j = L.length := by have := of_decide_eq_false hb; omega
   rw [hje, List.drop_length] at hR2
   rw [← show h2 = QR from hR2]
   refine nK2 ?_
   refine Next.weak [0, 1, 2, 3, 4] [] (by rfl) (keepsN hC _ rfl) wG wR wN rel_intro
  have hm : ¬ moreP d c old := by simpa [moreP] using hb
  have e1 : stD g.es d.length d c old = d := by unfold stD; rw [if_neg hl, if_neg hm]
  have e2 : stH g.es d.length d c old = newH d.length := by unfold stH; rw [if_neg hl, if_neg hm]
  rw [e1, e2]
  refine nK2 ?_
  refine Next.weak [0, 1, 2, 3, 4] [] (by rfl) (keepsN hC _ rfl) wG wR wN rel_intro
 have hpl := hSJ.hl
 have hdl := hSJ.dl
 generalize stD g.es d.length d c old = d2 at *
 generalize stH g.es d.length d c old = q2 at *
 generalize setF g.es (d.length + 1) d2 q2 = R2 at *
 refine nK2 ?_
 refine zb ?_
 refine zbf ?_
 refine za ?_
 refine za ?_
 refine Run.eff (dd := some 181) rfl rfl (op_call (n := 5) (n' := 6) [0, 1, 2, 3, 4] (fun _ => hset5) rfl (Opd.func _) (oS (oT rfl) (oS (oT rfl) (oS (oT rfl) Opds.nil))) rfl rfl (Lent.of rfl rfl (by exact ⟨⟨rfl, rfl, rfl, trivial⟩, ⟨rfl, rfl, rfl, tL⟩, ⟨rfl, rfl, rfl, trivial⟩, ⟨rfl, rfl, rfl, trivial⟩, ⟨rfl, rfl, rfl, trivial⟩, trivial⟩) rfl) rfl rfl rfl rfl rfl) ?_
 refine zc ?_
 refine nK2 ?_
 refine zb ?_
 refine za ?_
 refine zd ?_
 refine zc ?_
 refine nK2 ?_
 refine Next.weakS [] [10] (by rfl) (keeps0 hC _) (G' := [(10, .fz (VI D))]) (H' := []) ⟨⟨_, rfl, .inr ⟨_, rfl, .sl _ _ _ _ _ _ rfl rfl (take_all0 (by rw [List.length_map]; exact Dl)) (by rw [List.length_map]; omega)⟩⟩, trivial⟩ trivial rfl ?_
 exact n_out1 rfl (by rfl) rfl rfl
open Go Go.RT Go.Proofs Go.Pl
set_option maxRecDepth 20000
set_option maxHeartbeats 4000000
def encF {dn : Nat} (x : Fin dn) : List FV := [If .i64 (x.val : Int)]
abbrev OF {dn : Nat} (l : List (Fin dn)) : Option Ob := some (.flat 1 (l.map encF))
theorem swapR_c {dn : Nat} (P U M V R : List (Fin dn)) (cl : PV) (h : U.length = V.length) (hn : P.length + U.length + M.length + V.length + R.length ≤ 2000000) : Meets Tryz.prog 133 [.sl 0 1 0 (P.length + U.length + M.length + V.length + R.length), IV .i64 P.length, IV .i64 (P.length + U.length + M.length : Nat), IV .i64 U.length, cl] 1 [(0, OF (P ++ (U ++ (M ++ (V ++ R)))))] (.fz (.tup [])) [(0, OF (P ++ (V ++ (M ++ (U ++ R)))))] 1 := by
 rw [← swI_0, ← swI_n h]
 refine Meets.intro Tryz.func133 rfl (Nat.le_of_ble_eq_true rfl) fun C hC => ?_
 simp only [List.map, argEnv, Nat.reduceAdd]
 refine nK ?_
 refine zb ?_
 refine ze ?_
 refine zc ?_
 refine nK ?_
 refine n_loop (ι := Nat) (fun i => ([(0, .sl 0 1 0 (P.length + U.length + M.length + V.length + R.length)), (1, IV .i64 P.length), (2, IV .i64 (P.length + U.length + M.length : Nat)), (3, IV .i64 U.length), (10, IV .i64 i)], [(0, OF (swI P U M V R i))], 1)) (fun i => i ≤ U.length) (fun i => U.length - i) 0 (Nat.zero_le _) ?_ ?_
 ·refine Next.weak [0] [] (by rfl) (keepsN hC _ rfl) wG wR wN rel_intro
 intro i hi K hK
 try dsimp only at hi hK ⊢
 refine nK ?_
 refine zb ?_
 refine za ?_
 refine za ?_
 refine zp ?_
 refine zc ?_
 refine nK ?_
 refine n_cond _ rfl (fun hb => ?_) (fun hb => ?_)
 ·have hu : i < U.length := by have := of_decide_eq_true hb; omega
  have hv : i < V.length := by omega
  have ru : ((swI P U M V R i).map encF)[P.length + i]? = some (encF U[i]) := by rw [List.getElem?_map, swI_u hu hv]; rfl
  have rv : ((swI P U M V R i).map encF)[P.length + U.length + M.length + i]? = some (encF V[i]) := by rw [List.getElem?_map, swI_v hu hv]; rfl
  have hK1 := hK (i + 1) (by omega) (by omega)
  rw [← swI_step hu hv] at hK1
  have rv2 : ∀ x, (((swI P U M V R i).map encF).set (P.length + i) x)[P.length + U.length + M.length + i]? = some (encF V[i]) := fun x => by rw [List.getElem?_set_ne (by omega)]; exact rv
  generalize swI P U M V R i = L at *
  generalize U[i] = u at *
  generalize V[i] = v at *
  refine nK ?_
  refine s_draw mixed ?_
  refine za ?_
  refine za ?_
  refine za ?_
  refine zbc ?_
  refine za ?_
  refine za ?_
  refine za ?_
  refine zbc ?_
  refine za ?_
  refine za ?_
  refine za ?_
  refine zbc ?_
  refine rpZ 28 rfl (op_idx_sl0 (P.length + U.length + M.length + i) rfl (oT rfl) (oT rfl) (by intro _; constructor <;> omega)) ?_
  refine rlZ 29 rfl (op_load1_flat rfl (oT rfl) (by intro _; exact ⟨rfl, rv⟩) rfl) ?_
  refine za ?_
  refine za ?_
  refine za ?_
  refine zbc ?_
  refine rpZ 34 rfl (op_idx_sl0 (P.length + i) rfl (oT rfl) (oT rfl) (by intro _; constructor <;> omega)) ?_
  refine rlZ 35 rfl (op_load1_flat rfl (oT rfl) (by intro _; exact ⟨rfl, ru⟩) rfl) ?_
  refine rpZ 36 rfl (op_idx_sl0 (P.length + i) rfl (oT rfl) (oT rfl) (by intro _; constructor <;> omega)) ?_
  refine Run.effW (dd := none) rfl rfl (op_store_flat rfl (oT rfl) (oT rfl) tC rfl rfl ru tS) tE ?_
  refine rpZ 37 rfl (op_idx_sl0 (P.length + U.length + M.length + i) rfl (oT rfl) (oT rfl) (by intro _; constructor <;> omega)) ?_
  refine Run.effW (dd := none) rfl rfl (op_store_flat rfl (oT rfl) (oT rfl) tC rfl rfl (rv2 _) tS) tE ?_
  refine zs ?_
  refine nK ?_
  refine zb ?_
  refine za ?_
  refine zl ?_
  refine zd ?_
  refine zc ?_
  refine nK ?_
  refine Next.weak [0] [] (by rfl) (keepsN hC _ rfl) wG (by exact ⟨ent_same rfl rfl (flEq rfl (by rw [List.map_set, List.map_set] <;> rfl)) trivial, trivial⟩) wN hK1
 have hie : i = U.length := by have := of_decide_eq_false hb; omega
 subst hie
 refine nK ?_
 refine Next.weak [0] [] (by rfl) (keepsN hC _ rfl) (G' := []) (H' := [(0, OF (swI P U M V R U.length))]) trivial wR wN ?_
 exact n_out0 rfl
open Go Go.RT Go.Proofs Go.Pl
set_option maxRecDepth 20000
set_option maxHeartbeats 4000000
theorem wHSI2a {α : Prop} (h : α := by repeat (first | exact trivial | refine ⟨⟨_, rfl, .inl ⟨rfl, rfl⟩⟩, ?_⟩ | refine ⟨⟨_, rfl, .inl ⟨ivEq (by omega), rfl⟩⟩, ?_⟩)) : α := h
theorem swapR_i {dn : Nat} (P U M V R L T : List (Fin dn)) (cl : PV) (N : Nat) (a b n : Int) (h : U.length = V.length) (hN : N = P.length + U.length + M.length + V.length + R.length) (hn : N ≤ 2000000) (ha : a = P.length) (hb : b = (P.length + U.length + M.length : Nat)) (hc : n = U.length) (hL : L = P ++ (U ++ (M ++ (V ++ R)))) (hT : T = P ++ (V ++ (M ++ (U ++ R)))) :
  Meets Tryz.prog 133 [.sl 0 1 0 N, IV .i64 a, IV .i64 b, IV .i64 n, cl] 1 [(0, OF L)] (.fz (.tup [])) [(0, OF T)] 1 := by
 subst hN; subst ha; subst hb; subst hc; subst hL; subst hT
 exact swapR_c P U M V R cl h hn
theorem rotate_c {dn : Nat} (gf : Nat) (caps : List FV) (X U V Y : List (Fin dn)) (N : Nat) (hN : N = X.length + U.length + V.length + Y.length) (hn : N ≤ 2000000) (hu : 0 < U.length) (hv : 0 < V.length) : Meets Tryz.prog 118 [.sl 0 1 0 N, IV .i64 X.length, IV .i64 (X.length + U.length : Nat), IV .i64 (X.length + U.length + V.length : Nat), (PV.fz (.clo gf caps))] 1 [(0, OF (X ++ (U ++ (V ++ Y))))] (.fz (.tup [])) [(0, OF (X ++ (V ++ (U ++ Y))))] 1 := by
 generalize hm : X.length + U.length = m
 have hm2 : ((X.length + U.length + V.length : Nat) : Int) = ((m + V.length : Nat) : Int) := by omega
 generalize hT : X ++ (V ++ (U ++ Y)) = T
 refine Meets.intro Tryz.func118 rfl (Nat.le_of_ble_eq_true rfl) fun C hC => ?_
 simp only [List.map, argEnv, Nat.reduceAdd]
 refine nK ?_
 refine zb ?_
 refine za ?_
 refine za ?_
 refine zbw ?_
 refine zd ?_
 refine zc ?_
 refine nK ?_
 refine zb ?_
 refine za ?_
 refine za ?_
 refine zbw ?_
 refine zd ?_
 refine zc ?_
 refine nK ?_
 refine n_loop (ι := List (Fin dn) × List (Fin dn) × List (Fin dn) × List (Fin dn)) (fun s => ([(0, .sl 0 1 0 N), (2, IV .i64 m), (4, (PV.fz (.clo gf caps))), (10, IV .i64 s.2.1.length), (11, IV .i64 s.2.2.1.length)], [(0, OF (s.1 ++ (s.2.1 ++ (s.2.2.1 ++ s.2.2.2))))], 1)) (fun s => s.1 ++ (s.2.2.1 ++ (s.2.1 ++ s.2.2.2)) = T ∧ s.1.length + s.2.1.length = m ∧ 0 < s.2.1.length ∧ 0 < s.2.2.1.length ∧ N = s.1.length + s.2.1.length + s.2.2.1.length + s.2.2.2.length) (fun s => s.2.1.length + s.2.2.1.length) (X, U, V, Y) ⟨hT, hm, hu, hv, hN⟩ ?_ ?_
 ·refine Next.weak [0] [] (by rfl) (keepsN hC _ rfl) (by exact ⟨⟨_, rfl, .inl ⟨rfl, rfl⟩⟩, ⟨⟨_, rfl, .inl ⟨rfl, rfl⟩⟩, ⟨⟨_, rfl, .inl ⟨rfl, rfl⟩⟩, ⟨⟨_, rfl, .inl ⟨ivEq (by dsimp only; omega), rfl⟩⟩, ⟨⟨_, rfl, .inl ⟨ivEq (by dsimp only; omega), rfl⟩⟩, trivial⟩⟩⟩⟩⟩) wR wN rel_intro
 intro ⟨X, U, V, Y⟩ ⟨hT, hm, hu, hv, hN⟩ K hK
 dsimp only at hT hm hu hv hN hK ⊢
 refine nK ?_
 refine zb ?_
 refine za ?_
 refine za ?_
 refine zbg ?_
 refine zc ?_
 refine nK ?_
 refine n_cond _ rfl (fun hb => ?_) (fun hb => ?_)
 ·have hne : U.length ≠ V.length := by simp at hb; omega
  clear hb
  refine nK ?_
  refine zb ?_
  refine za ?_
  refine za ?_
  refine zcn ?_
  refine zc ?_
  refine nK ?_
  refine n_cond _ rfl (fun hb => ?_) (fun hb => ?_)
  ·have hlt : V.length < U.length := by have := of_decide_eq_true hb; omega
   have hK1 := hK (X ++ V, U.drop V.length, U.take V.length, Y) ⟨by dsimp only; rw [← hT]; simp only [List.append_assoc]; rw [← List.append_assoc (U.take V.length), List.take_append_drop], by simp; omega, by simp; omega, by simp; omega, by simp; omega⟩ (by simp; omega)
   dsimp only at hK1
   have e1 : (U.drop V.length).length = U.length - V.length := List.length_drop
   have e2 : (U.take V.length).length = V.length := by simp; omega
   rw [e1, e2] at hK1
   have hsw := swapR_i X (U.take V.length) (U.drop V.length) V Y (X ++ (U ++ (V ++ Y))) ((X ++ V) ++ (U.drop V.length ++ (U.take V.length ++ Y))) (PV.fz (.clo gf caps)) N (m - U.length) m V.length e2 (by rw [e1, e2]; omega) hn (by omega) (by rw [e1, e2]; omega) (by rw [e2]) (by rw [← List.append_assoc (U.take V.length), List.take_append_drop]) (by simp only [List.append_assoc])
   refine nK ?_
   refine zb ?_
   refine za ?_
   refine za ?_
   refine za ?_
   refine zbw ?_
   refine za ?_
   refine za ?_
   refine za ?_
   refine Run.eff (dd := some 31) rfl rfl (op_call (n := 1) (n' := 1) [0] (fun _ => hsw) rfl (Opd.func _) (oS (oT rfl) (oS (oT rfl) (oS (oT rfl) (oS (oT rfl) (oS (oT rfl) Opds.nil))))) rfl rfl (Lent.of rfl rfl (by exact ⟨⟨rfl, rfl, rfl, trivial⟩, trivial⟩) rfl) rfl rfl rfl rfl rfl) ?_
   refine zc ?_
   refine nK ?_
   refine zb ?_
   refine za ?_
   refine za ?_
   refine zbw ?_
   refine zd ?_
   refine zc ?_
   refine nK ?_
   refine Next.weak [0] [] (by rfl) (keepsN hC _ rfl) wHSI2a wR wN hK1
  have hlt : U.length < V.length := by have := of_decide_eq_false hb; omega
  have hK1 := hK (X, V.drop (V.length - U.length), V.take (V.length - U.length), U ++ Y) ⟨by dsimp only; rw [← hT, ← List.append_assoc (V.take _), List.take_append_drop], by simp; omega, by simp; omega, by simp; omega, by simp; omega⟩ (by simp; omega)
  dsimp only at hK1
  have e1 : (V.drop (V.length - U.length)).length = U.length := by simp; omega
  have e2 : (V.take (V.length - U.length)).length = V.length - U.length := by simp
  rw [e1, e2] at hK1
  have hsw := swapR_i X U (V.take (V.length - U.length)) (V.drop (V.length - U.length)) Y (X ++ (U ++ (V ++ Y))) (X ++ (V.drop (V.length - U.length) ++ (V.take (V.length - U.length) ++ (U ++ Y)))) (PV.fz (.clo gf caps)) N (m - U.length) (m + V.length - U.length) U.length e1.symm (by rw [e1, e2]; omega) hn (by omega) (by rw [e2]; omega) rfl (by rw [← List.append_assoc (V.take _), List.take_append_drop]) rfl
  refine nK ?_
  refine zb ?_
  refine za ?_
  refine za ?_
  refine za ?_
  refine zbw ?_
  refine za ?_
  refine za ?_
  refine zbc ?_
  refine za ?_
  refine zbw ?_
  refine za ?_
  refine za ?_
  refine Run.eff (dd := some 46) rfl rfl (op_call (n := 1) (n' := 1) [0] (fun _ => hsw) rfl (Opd.func _) (oS (oT rfl) (oS (oT rfl) (oS (oT rfl) (oS (oT rfl) (oS (oT rfl) Opds.nil))))) rfl rfl (Lent.of rfl rfl (by exact ⟨⟨rfl, rfl, rfl, trivial⟩, trivial⟩) rfl) rfl rfl rfl rfl rfl) ?_
  refine zc ?_
  refine nK ?_
  refine zb ?_
  refine za ?_
  refine za ?_
  refine zbw ?_
  refine zd ?_
  refine zc ?_
  refine nK ?_
  refine Next.weak [0] [] (by rfl) (keepsN hC _ rfl) wHSI2a wR wN hK1
 have heq : U.length = V.length := by simp at hb; omega
 have hsw := swapR_i X U [] V Y (X ++ (U ++ (V ++ Y))) T (PV.fz (.clo gf caps)) N (m - U.length) m U.length heq (by simp; omega) hn (by omega) (by simp; omega) rfl (by simp) (by rw [← hT]; simp)
 refine nK ?_
 refine zb ?_
 refine za ?_
 refine za ?_
 refine za ?_
 refine zbw ?_
 refine za ?_
 refine za ?_
 refine za ?_
 refine Run.eff (dd := some 57) rfl rfl (op_call (n := 1) (n' := 1) [0] (fun _ => hsw) rfl (Opd.func _) (oS (oT rfl) (oS (oT rfl) (oS (oT rfl) (oS (oT rfl) (oS (oT rfl) Opds.nil))))) rfl rfl (Lent.of rfl rfl (by exact ⟨⟨rfl, rfl, rfl, trivial⟩, trivial⟩) rfl) rfl rfl rfl rfl rfl) ?_
 refine zc ?_
 refine nK ?_
 refine Next.weak [0] [] (by rfl) (keepsN hC _ rfl) (G' := []) (H' := [(0, OF T)]) trivial wR wN ?_
 exact n_out0 rfl
open Go Go.RT Go.Proofs Go.Pl
set_option maxRecDepth 20000
set_option maxHeartbeats 4000000
theorem wHSI3a {α : Prop} (h : α := by repeat (first | exact trivial | refine ⟨wS, ?_⟩ | refine ⟨ent_same rfl rfl (rfEq rfl tU) tL, ?_⟩ | refine ⟨ent_same rfl rfl (flEq rfl (by first | (simp; done) | (simp; omega) | (simp [encF]; done) | simp [maxC, minC])) trivial, ?_⟩)) : α := h
theorem ins_c {dn : Nat} (gf : Nat) [FnB Tryz.prog gf] (caps : List FV) (c : (Fin dn) → (Fin dn) → Int) (o : SWk (ltS c)) (hp : ∀ x y, Pure Tryz.prog gf ([If .i64 (x.val : Int), If .i64 (y.val : Int)] ++ caps) (If .i64 (c x y)))
  (X M Y L T : List (Fin dn)) (N : Nat) (a b : Int) (hN : N = X.length + M.length + Y.length) (hn : N ≤ 2000000) (ha : a = X.length) (hb : b = (X.length + M.length : Nat)) (hL : L = X ++ (M ++ Y)) (hT : T = X ++ (srtS (ltS c) M ++ Y)) :
  Meets Tryz.prog 99 [.sl 0 1 0 N, IV .i64 a, IV .i64 b, (PV.fz (.clo gf caps))] 1 [(0, OF L)] (.fz (.tup [])) [(0, OF T)] 1 := by
 subst ha; subst hb; subst hL; subst hT
 refine Meets.intro Tryz.func99 rfl (Nat.le_of_ble_eq_true rfl) fun C hC => ?_
 simp only [List.map, argEnv, Nat.reduceAdd]
 refine nK ?_
 refine zb ?_
 refine za ?_
 refine zl ?_
 refine zd ?_
 refine zc ?_
 refine nK ?_
 refine n_loop (ι := Nat) (fun i => ([(0, .sl 0 1 0 N), (1, IV .i64 X.length), (2, IV .i64 (X.length + M.length : Nat)), (3, (PV.fz (.clo gf caps))), (8, IV .i64 (X.length + i : Nat))], [(0, OF (X ++ (srtS (ltS c) (M.take i) ++ (M.drop i ++ Y))))], 1)) (fun i => 1 ≤ i ∧ i ≤ max 1 M.length) (fun i => M.length - i) 1 ⟨Nat.le_refl _, Nat.le_max_left _ _⟩ ?_ ?_
 ·have e1 : srtS (ltS c) (M.take 1) ++ (M.drop 1 ++ Y) = M ++ Y := by
   cases M with
   | nil => simp [srtS]
   | cons m M => simp [srtS, mrg]
  dsimp only
  rw [e1]
  refine Next.weakS [0] [] (by rfl) (wK hC) wG wHSI3a rfl (rel_intro)
 intro i ⟨hi1, hi2⟩ K hK
 dsimp only at hK ⊢
 refine nK ?_
 refine zb ?_
 refine za ?_
 refine za ?_
 refine zp ?_
 refine zc ?_
 refine nK ?_
 refine n_cond _ rfl (fun hb => ?_) (fun hb => ?_)
 ·have hlt : i < M.length := by have := of_decide_eq_true hb; omega
  have hSl : (srtS (ltS c) (M.take i)).length = i := by rw [srtS_len]; simp; omega
  have hSs : Srt (ltS c) (srtS (ltS c) (M.take i)) := srtS_srt o _
  have hK1 := hK (i + 1) ⟨by omega, by omega⟩ (by omega)
  rw [List.take_succ_eq_append_getElem hlt, srtS_snoc] at hK1
  rw [List.drop_eq_getElem_cons hlt]
  generalize srtS (ltS c) (M.take i) = S at *
  generalize M[i] = x at *
  generalize M.drop (i + 1) = R0 at *
  have e0 : X ++ (S ++ (x :: R0 ++ Y)) = X ++ (S.take i ++ x :: (S.drop i ++ (R0 ++ Y))) := by
   rw [List.take_of_length_le (by omega), List.drop_eq_nil_of_le (by omega)]; rfl
  rw [e0]
  refine nK ?_
  refine zb ?_
  refine za ?_
  refine zd ?_
  refine zc ?_
  refine nK ?_
  refine n_loop (ι := Nat) (fun k => ([(0, .sl 0 1 0 N), (1, IV .i64 X.length), (2, IV .i64 (X.length + M.length : Nat)), (3, (PV.fz (.clo gf caps))), (8, IV .i64 (X.length + i : Nat)), (9, IV .i64 (X.length + k : Nat))], [(0, OF (X ++ (S.take k ++ x :: (S.drop k ++ (R0 ++ Y)))))], 1)) (fun k => k ≤ i ∧ (∀ h : k < S.length, ltS c x S[k] = true)) (fun k => k) i ⟨Nat.le_refl _, fun h => by omega⟩ ?_ ?_
  ·refine Next.weakS [0] [] (by rfl) (wK hC) wG wHSI3a rfl (rel_intro)
  intro k ⟨hk, hkk⟩ K2 hK2
  dsimp only at hK2 ⊢
  have hpi : k - 1 < S.length := by omega
  have ra : ((X ++ (S.take k ++ x :: (S.drop k ++ (R0 ++ Y)))).map encF)[X.length + k]? = some (encF x) := by rw [List.getElem?_map, ins_at (by omega)]; rfl
  have rp : 0 < k → ((X ++ (S.take k ++ x :: (S.drop k ++ (R0 ++ Y)))).map encF)[X.length + (k - 1)]? = some (encF S[k - 1]) := fun h => by rw [List.getElem?_map, ins_prev h (by omega)]; rfl
  have hK3 := fun h0 h1 h2 => hK2 (k - 1) ⟨h1, h2⟩ h0
  have hst := fun h : 0 < k => ins_step (S := S) (R := R0 ++ Y) (x := x) (X := X) h (by omega)
  have hone := one_right (y := x) o hSs (S := k) (by omega)
  generalize hq : S[k - 1] = q at *
  refine nK ?_
  refine s_draw mixed ?_
  refine za ?_
  refine za ?_
  refine zcn ?_
  refine za ?_
  refine zf ?_
  refine zf ?_
  refine zf ?_
  refine rgZ 25 rfl rfl tG (op_idx_sl0 (X.length + k) rfl (oO rfl tO) (oO rfl tO) (by intro _; constructor <;> omega)) ?_
  refine rkZ 26 rfl rfl tG (op_load1_flat rfl (oO rfl tO) (by intro _; exact ⟨rfl, ra⟩) rfl) ?_
  refine zf ?_
  refine zf ?_
  refine zcz ?_
  refine rgZ 30 rfl rfl tG (op_idx_sl0 (X.length + (k - 1)) rfl (oO rfl tO) (oO rfl tO) (by intro hg; simp at hg; constructor <;> omega)) ?_
  refine rkZ 31 rfl rfl tG (op_load1_flat rfl (oO rfl tO) (by intro hg; exact ⟨rfl, rp (by simp at hg; omega)⟩) rfl) ?_
  refine rgZ 32 rfl rfl tG (op_call_pureC (fun _ => hp x q) rfl (oO rfl tO) (oS (oO rfl tO) (oS (oO rfl tO) Opds.nil))) ?_
  refine zcc ?_
  refine zt ?_
  refine zs ?_
  refine nK ?_
  refine n_cond _ rfl (fun hb => ?_) (fun hb => ?_)
  ·have hb2 : 0 < k ∧ c x q < 0 := by simp at hb; exact ⟨by omega, hb.2⟩
   obtain ⟨hk0, hcx⟩ := hb2
   have rp' := rp hk0
   have rp2 : ∀ z, (((X ++ (S.take k ++ x :: (S.drop k ++ (R0 ++ Y)))).map encF).set (X.length + k) z)[X.length + (k - 1)]? = some (encF q) := fun z => by rw [List.getElem?_set_ne (by omega)]; exact rp'
   have hK4 := hK3 (by omega) (by omega) (fun h => by rw [hq]; exact decide_eq_true hcx)
   have hst' := hst hk0
   rw [← hst'] at hK4
   rw [hq] at hK4
   generalize X ++ (S.take k ++ x :: (S.drop k ++ (R0 ++ Y))) = W at *
   refine nK ?_
   refine s_draw mixed ?_
   refine za ?_
   refine za ?_
   refine za ?_
   refine za ?_
   refine zbx ?_
   refine za ?_
   refine za ?_
   refine zbx ?_
   refine rpZ 45 rfl (op_idx_sl0 (X.length + (k - 1)) rfl (oT rfl) (oT rfl) (by intro _; constructor <;> omega)) ?_
   refine rlZ 46 rfl (op_load1_flat rfl (oT rfl) (by intro _; exact ⟨rfl, rp'⟩) rfl) ?_
   refine za ?_
   refine za ?_
   refine rpZ 49 rfl (op_idx_sl0 (X.length + k) rfl (oT rfl) (oT rfl) (by intro _; constructor <;> omega)) ?_
   refine rlZ 50 rfl (op_load1_flat rfl (oT rfl) (by intro _; exact ⟨rfl, ra⟩) rfl) ?_
   refine rpZ 51 rfl (op_idx_sl0 (X.length + k) rfl (oT rfl) (oT rfl) (by intro _; constructor <;> omega)) ?_
   refine Run.effW (dd := none) rfl rfl (op_store_flat rfl (oT rfl) (oT rfl) tC rfl rfl ra tS) tE ?_
   refine rpZ 52 rfl (op_idx_sl0 (X.length + (k - 1)) rfl (oT rfl) (oT rfl) (by intro _; constructor <;> omega)) ?_
   refine Run.effW (dd := none) rfl rfl (op_store_flat rfl (oT rfl) (oT rfl) tC rfl rfl (rp2 _) tS) tE ?_
   refine zs ?_
   refine nK ?_
   refine zb ?_
   refine za ?_
   refine zbx ?_
   refine zd ?_
   refine zc ?_
   refine nK ?_
   refine Next.weak [0] [] (by rfl) (keepsN hC _ rfl) wG (by exact ⟨ent_same rfl rfl (flEq rfl (by rw [List.map_set, List.map_set] <;> rfl)) trivial, trivial⟩) wN hK4
  have hb2 : ¬ (0 < k ∧ c x q < 0) := by
   intro ⟨h1, h2⟩
   simp at hb; exact absurd h2 (by have := hb (by omega); omega)
  have e5 := hone (fun h => by
   have : ¬ c x q < 0 := fun h2 => hb2 ⟨h, h2⟩
   rw [hq]; exact decide_eq_false this) (fun h => hkk h)
  rw [e5] at hK1
  have e6 : X ++ ((S.take k ++ x :: S.drop k) ++ (R0 ++ Y)) = X ++ (S.take k ++ x :: (S.drop k ++ (R0 ++ Y))) := by simp
  rw [e6] at hK1
  refine nK ?_
  refine zb ?_
  refine za ?_
  refine zl ?_
  refine zd ?_
  refine zc ?_
  refine nK ?_
  refine Next.weakS [0] [] (by rfl) (wK hC) wG wHSI3a rfl (hK1)
 have hie : M.length ≤ i := by have := of_decide_eq_false hb; omega
 rw [List.take_of_length_le hie, List.drop_eq_nil_of_le hie]
 refine nK ?_
 refine Next.weak [0] [] (by rfl) (keepsN hC _ rfl) (G' := []) (H' := [(0, OF (X ++ (srtS (ltS c) M ++ Y)))]) trivial wR wN ?_
 exact n_out0 rfl
open Go Go.RT Go.Proofs Go.Pl
set_option maxRecDepth 20000
set_option maxHeartbeats 4000000
theorem wHSI4a {α : Prop} (h : α := by repeat (first | exact trivial | refine ⟨wS, ?_⟩ | refine ⟨ent_same rfl rfl (rfEq rfl tU) tL, ?_⟩ | refine ⟨ent_same rfl rfl (flEq rfl (by first | (simp; done) | (simp; omega) | (simp [encF]; done) | simp [maxC, minC])) trivial, ?_⟩)) : α := h
theorem rotate_i {dn : Nat} (gf : Nat) (caps : List FV) (X U V Y L T : List (Fin dn)) (N : Nat) (a m b : Int) (hN : N = X.length + U.length + V.length + Y.length) (hn : N ≤ 2000000) (hu : 0 < U.length) (hv : 0 < V.length) (ha : a = X.length) (hm : m = (X.length + U.length : Nat)) (hb : b = (X.length + U.length + V.length : Nat)) (hL : L = X ++ (U ++ (V ++ Y))) (hT : T = X ++ (V ++ (U ++ Y))) :
  Meets Tryz.prog 118 [.sl 0 1 0 N, IV .i64 a, IV .i64 m, IV .i64 b, (PV.fz (.clo gf caps))] 1 [(0, OF L)] (.fz (.tup [])) [(0, OF T)] 1 := by
 subst ha; subst hm; subst hb; subst hL; subst hT
 exact rotate_c gf caps X U V Y N hN hn hu hv
theorem sym_c {dn : Nat} (gf : Nat) [FnB Tryz.prog gf] (caps : List FV) (c : (Fin dn) → (Fin dn) → Int) (o : SWk (ltS c)) (hp : ∀ x y, Pure Tryz.prog gf ([If .i64 (x.val : Int), If .i64 (y.val : Int)] ++ caps) (If .i64 (c x y))) (N : Nat) (hn : N ≤ 2000000) :
  ∀ (kk : Nat) (X A B Y L T : List (Fin dn)) (a m b : Int), A.length + B.length ≤ kk → 0 < A.length → 0 < B.length → Srt (ltS c) A → Srt (ltS c) B → N = X.length + A.length + B.length + Y.length → a = X.length → m = (X.length + A.length : Nat) → b = (X.length + A.length + B.length : Nat) → L = X ++ (A ++ (B ++ Y)) → T = X ++ (mrg (ltS c) A B ++ Y) →
  Meets Tryz.prog 100 [.sl 0 1 0 N, IV .i64 a, IV .i64 m, IV .i64 b, (PV.fz (.clo gf caps))] 1 [(0, OF L)] (.fz (.tup [])) [(0, OF T)] 1 := by
 intro kk
 induction kk with
 | zero => intro X A B Y L T a m b h1 h2; omega
 | succ kk ih =>
 intro X A B Y L T a m b hk hA hB sA sB hN ha hm hb hL hT
 subst ha; subst hm; subst hb; subst hL; subst hT
 refine Meets.intro Tryz.func100 rfl (Nat.le_of_ble_eq_true rfl) fun C hC => ?_
 simp only [List.map, argEnv, Nat.reduceAdd]
 refine nK ?_
 refine zb ?_
 refine za ?_
 refine za ?_
 refine zbw ?_
 refine zci ?_
 refine zc ?_
 refine nK ?_
 refine n_cond _ rfl (fun hb => ?_) (fun hb => ?_)
 ·have hp1 : A.length = 1 := by have := of_decide_eq_true hb; omega
  obtain ⟨x, rfl⟩ := List.length_eq_one_iff.1 hp1
  clear ih hb hk hA
  simp only [List.length_singleton] at *
  have rx : (X ++ ([x] ++ (B ++ Y)))[X.length]? = some x := get_at_len
  have rb : ∀ h (hh : h < B.length), (X ++ ([x] ++ (B ++ Y)))[X.length + 1 + h]? = some B[h] := fun h hh => by
   rw [List.getElem?_append_right (by omega), List.getElem?_append_right (by simp; omega), List.getElem?_append_left (by simp; omega)]
   rw [show X.length + 1 + h - X.length - [x].length = h by simp; omega]
   exact List.getElem?_eq_getElem _
  refine nK ?_
  refine zb ?_
  refine za ?_
  refine zd ?_
  refine zc ?_
  refine nK ?_
  refine zb ?_
  refine za ?_
  refine zd ?_
  refine zc ?_
  refine nK ?_
  refine n_loop (ι := Nat × Nat) (fun s => ([(0, .sl 0 1 0 N), (1, IV .i64 X.length), (4, (PV.fz (.clo gf caps))), (10, IV .i64 (X.length + 1 + s.1 : Nat)), (11, IV .i64 (X.length + 1 + s.2 : Nat))], [(0, OF (X ++ ([x] ++ (B ++ Y))))], 1)) (fun s => s.1 ≤ s.2 ∧ s.2 ≤ B.length ∧ (∀ (h : 0 < s.1) (h2 : s.1 - 1 < B.length), ltS c B[s.1 - 1] x = true) ∧ (∀ h : s.2 < B.length, ltS c B[s.2] x = false)) (fun s => s.2 - s.1) (0, B.length) ⟨Nat.zero_le _, Nat.le_refl _, fun h => by simp at h, fun h => by simp at h⟩ ?_ ?_
  ·refine Next.weakS [0] [] (by rfl) (wK hC) wG wHSI4a rfl (rel_intro)
  intro ⟨i, j⟩ ⟨h1, h2, h3, h4⟩ K hK
  dsimp only at h1 h2 h3 h4 hK ⊢
  refine nK ?_
  refine zb ?_
  refine za ?_
  refine za ?_
  refine zp ?_
  refine zc ?_
  refine nK ?_
  refine n_cond _ rfl (fun hb => ?_) (fun hb => ?_)
  ·have hij : i < j := by have := of_decide_eq_true hb; omega
   have hh : (i + j) / 2 < B.length := by omega
   have hrb := rb _ hh
   have hra : ((X ++ ([x] ++ (B ++ Y))).map encF)[X.length]? = some (encF x) := by rw [List.getElem?_map, rx]; rfl
   have hrb : ((X ++ ([x] ++ (B ++ Y))).map encF)[X.length + 1 + (i + j) / 2]? = some (encF B[(i + j) / 2]) := by rw [List.getElem?_map, hrb]; rfl
   have hKa := fun (hq : ltS c B[(i + j) / 2] x = true) => hK ((i + j) / 2 + 1, j) ⟨by dsimp only; omega, h2, fun _ _ => hq, h4⟩ (by dsimp only; omega)
   have hKb := fun (hq : ltS c B[(i + j) / 2] x = false) => hK (i, (i + j) / 2) ⟨by dsimp only; omega, by dsimp only; omega, h3, fun _ => hq⟩ (by dsimp only; omega)
   generalize B[(i + j) / 2] = z at *
   dsimp only at hKa hKb
   refine nK ?_
   refine zb ?_
   refine za ?_
   refine za ?_
   refine zbc ?_
   refine zca ?_
   refine rpZ 38 rfl (op_shr (n := 1) rfl (oT rfl) oC (by intro _; simp only [IntKind.bits]; omega)) ?_
   refine zca ?_
   refine zd ?_
   refine zc ?_
   refine nK ?_
   refine s_draw mixed ?_
   refine za ?_
   refine za ?_
   refine za ?_
   refine rpZ 43 rfl (op_idx_sl0 (X.length + 1 + (i + j) / 2) rfl (oT rfl) (oT rfl) (by intro _; constructor <;> omega)) ?_
   refine rlZ 44 rfl (op_load1_flat rfl (oT rfl) (by intro _; exact ⟨rfl, hrb⟩) rfl) ?_
   refine za ?_
   refine za ?_
   refine rpZ 47 rfl (op_idx_sl0 X.length rfl (oT rfl) (oT rfl) (by intro _; constructor <;> omega)) ?_
   refine rlZ 48 rfl (op_load1_flat rfl (oT rfl) (by intro _; exact ⟨rfl, hra⟩) rfl) ?_
   refine rpZ 49 rfl (op_call_pureC (fun _ => hp z x) rfl (oT rfl) (oS (oT rfl) (oS (oT rfl) Opds.nil))) ?_
   refine zbn ?_
   refine zs ?_
   refine nK ?_
   refine n_cond _ rfl (fun hb => ?_) (fun hb => ?_)
   ·refine nK ?_
    refine zb ?_
    refine za ?_
    refine zl ?_
    refine zd ?_
    refine zc ?_
    refine nK ?_
    refine Next.weakS [0] [] (by rfl) (wK hC) wG wHSI4a rfl ((hKa hb))
   refine nK ?_
   refine zb ?_
   refine za ?_
   refine zd ?_
   refine zc ?_
   refine nK ?_
   refine Next.weakS [0] [] (by rfl) (wK hC) wG wHSI4a rfl ((hKb hb))
  have hij : i = j := by have := of_decide_eq_false hb; omega
  subst hij
  have ho1 := one_left o sB h2 (fun h => h3 h _) h4
  refine nK ?_
  refine zb ?_
  refine za ?_
  refine zd ?_
  refine zc ?_
  refine nK ?_
  refine n_loop (ι := Nat) (fun k => ([(0, .sl 0 1 0 N), (10, IV .i64 (X.length + 1 + i : Nat)), (13, IV .i64 (X.length + k : Nat))], [(0, OF (X ++ (B.take k ++ x :: (B.drop k ++ Y))))], 1)) (fun k => k ≤ i) (fun k => i - k) 0 (Nat.zero_le _) ?_ ?_
  ·refine Next.weakS [0] [] (by rfl) (wK hC) wG wHSI4a rfl (rel_intro)
  intro k hki K2 hK2
  dsimp only at hK2 ⊢
  refine nK ?_
  refine zb ?_
  refine za ?_
  refine za ?_
  refine zbx ?_
  refine zp ?_
  refine zc ?_
  refine nK ?_
  refine n_cond _ rfl (fun hb => ?_) (fun hb => ?_)
  ·have hk1 : k < i := by have := of_decide_eq_true hb; omega
   have hkB : k < B.length := by omega
   have ra : ((X ++ (B.take k ++ x :: (B.drop k ++ Y))).map encF)[X.length + k]? = some (encF x) := by rw [List.getElem?_map, ins_at (by omega)]; rfl
   have rn : ((X ++ (B.take k ++ x :: (B.drop k ++ Y))).map encF)[X.length + (k + 1)]? = some (encF B[k]) := by rw [List.getElem?_map, ins_next hkB]; rfl
   have rn2 : ∀ z, (((X ++ (B.take k ++ x :: (B.drop k ++ Y))).map encF).set (X.length + k) z)[X.length + (k + 1)]? = some (encF B[k]) := fun z => by rw [List.getElem?_set_ne (by omega)]; exact rn
   have hK3 := hK2 (k + 1) hk1 (by omega)
   rw [← ins_fwd hkB] at hK3
   generalize X ++ (B.take k ++ x :: (B.drop k ++ Y)) = W at *
   generalize B[k] = z at *
   refine nK ?_
   refine s_draw mixed ?_
   refine za ?_
   refine za ?_
   refine za ?_
   refine za ?_
   refine zl ?_
   refine za ?_
   refine za ?_
   refine zl ?_
   refine rpZ 69 rfl (op_idx_sl0 (X.length + (k + 1)) rfl (oT rfl) (oT rfl) (by intro _; constructor <;> omega)) ?_
   refine rlZ 70 rfl (op_load1_flat rfl (oT rfl) (by intro _; exact ⟨rfl, rn⟩) rfl) ?_
   refine za ?_
   refine za ?_
   refine rpZ 73 rfl (op_idx_sl0 (X.length + k) rfl (oT rfl) (oT rfl) (by intro _; constructor <;> omega)) ?_
   refine rlZ 74 rfl (op_load1_flat rfl (oT rfl) (by intro _; exact ⟨rfl, ra⟩) rfl) ?_
   refine rpZ 75 rfl (op_idx_sl0 (X.length + k) rfl (oT rfl) (oT rfl) (by intro _; constructor <;> omega)) ?_
   refine Run.effW (dd := none) rfl rfl (op_store_flat rfl (oT rfl) (oT rfl) tC rfl rfl ra tS) tE ?_
   refine rpZ 76 rfl (op_idx_sl0 (X.length + (k + 1)) rfl (oT rfl) (oT rfl) (by intro _; constructor <;> omega)) ?_
   refine Run.effW (dd := none) rfl rfl (op_store_flat rfl (oT rfl) (oT rfl) tC rfl rfl (rn2 _) tS) tE ?_
   refine zs ?_
   refine nK ?_
   refine zb ?_
   refine za ?_
   refine zl ?_
   refine zd ?_
   refine zc ?_
   refine nK ?_
   refine Next.weak [0] [] (by rfl) (keepsN hC _ rfl) wG (by exact ⟨ent_same rfl rfl (flEq rfl (by rw [List.map_set, List.map_set] <;> rfl)) trivial, trivial⟩) wN hK3
  have hk1 : k = i := by have := of_decide_eq_false hb; omega
  subst hk1
  rw [ho1]
  have e9 : X ++ (B.take k ++ x :: B.drop k ++ Y) = X ++ (B.take k ++ x :: (B.drop k ++ Y)) := by simp
  rw [e9]
  refine nK ?_
  refine Next.weak [0] [] (by rfl) (keepsN hC _ rfl) (G' := []) (H' := [(0, OF (X ++ (B.take k ++ x :: (B.drop k ++ Y))))]) trivial wR wN ?_
  exact n_out0 rfl
 have hp1 : A.length ≠ 1 := by simp at hb; omega
 clear hb
 refine nK ?_
 refine zb ?_
 refine za ?_
 refine za ?_
 refine zbw ?_
 refine zci ?_
 refine zc ?_
 refine nK ?_
 refine n_cond _ rfl (fun hb => ?_) (fun hb => ?_)
 ·have hq1 : B.length = 1 := by have := of_decide_eq_true hb; omega
  obtain ⟨y, rfl⟩ := List.length_eq_one_iff.1 hq1
  clear ih hb hk hB
  simp only [List.length_singleton] at *
  have ry : (X ++ (A ++ ([y] ++ Y)))[X.length + A.length]? = some y := by
   have := get_at_len (P := X ++ A) (R := Y) (u := y)
   simpa using this
  have rb : ∀ h (hh : h < A.length), (X ++ (A ++ ([y] ++ Y)))[X.length + h]? = some A[h] := fun h hh => by
   rw [List.getElem?_append_right (by omega), List.getElem?_append_left (by omega)]
   rw [show X.length + h - X.length = h by omega]
   exact List.getElem?_eq_getElem _
  refine nK ?_
  refine zb ?_
  refine za ?_
  refine zd ?_
  refine zc ?_
  refine nK ?_
  refine zb ?_
  refine za ?_
  refine zd ?_
  refine zc ?_
  refine nK ?_
  refine n_loop (ι := Nat × Nat) (fun s => ([(0, .sl 0 1 0 N), (2, IV .i64 (X.length + A.length : Nat)), (4, (PV.fz (.clo gf caps))), (14, IV .i64 (X.length + s.1 : Nat)), (15, IV .i64 (X.length + s.2 : Nat))], [(0, OF (X ++ (A ++ ([y] ++ Y))))], 1)) (fun s => s.1 ≤ s.2 ∧ s.2 ≤ A.length ∧ (∀ (h : 0 < s.1) (h2 : s.1 - 1 < A.length), ltS c y A[s.1 - 1] = false) ∧ (∀ h : s.2 < A.length, ltS c y A[s.2] = true)) (fun s => s.2 - s.1) (0, A.length) ⟨Nat.zero_le _, Nat.le_refl _, fun h => by simp at h, fun h => by simp at h⟩ ?_ ?_
  ·refine Next.weakS [0] [] (by rfl) (wK hC) wG wHSI4a rfl (rel_intro)
  intro ⟨i, j⟩ ⟨h1, h2, h3, h4⟩ K hK
  dsimp only at h1 h2 h3 h4 hK ⊢
  refine nK ?_
  refine zb ?_
  refine za ?_
  refine za ?_
  refine zp ?_
  refine zc ?_
  refine nK ?_
  refine n_cond _ rfl (fun hb => ?_) (fun hb => ?_)
  ·have hij : i < j := by have := of_decide_eq_true hb; omega
   have hh : (i + j) / 2 < A.length := by omega
   have hrb := rb _ hh
   have hra : ((X ++ (A ++ ([y] ++ Y))).map encF)[X.length + A.length]? = some (encF y) := by rw [List.getElem?_map, ry]; rfl
   have hrb : ((X ++ (A ++ ([y] ++ Y))).map encF)[X.length + (i + j) / 2]? = some (encF A[(i + j) / 2]) := by rw [List.getElem?_map, hrb]; rfl
   have hKa := fun (hq : ltS c y A[(i + j) / 2] = false) => hK ((i + j) / 2 + 1, j) ⟨by dsimp only; omega, h2, fun _ _ => hq, h4⟩ (by dsimp only; omega)
   have hKb := fun (hq : ltS c y A[(i + j) / 2] = true) => hK (i, (i + j) / 2) ⟨by dsimp only; omega, by dsimp only; omega, h3, fun _ => hq⟩ (by dsimp only; omega)
   generalize A[(i + j) / 2] = z at *
   dsimp only at hKa hKb
   refine nK ?_
   refine zb ?_
   refine za ?_
   refine za ?_
   refine zbc ?_
   refine zca ?_
   refine rpZ 90 rfl (op_shr (n := 1) rfl (oT rfl) oC (by intro _; simp only [IntKind.bits]; omega)) ?_
   refine zca ?_
   refine zd ?_
   refine zc ?_
   refine nK ?_
   refine s_draw mixed ?_
   refine za ?_
   refine za ?_
   refine za ?_
   refine rpZ 95 rfl (op_idx_sl0 (X.length + A.length) rfl (oT rfl) (oT rfl) (by intro _; constructor <;> omega)) ?_
   refine rlZ 96 rfl (op_load1_flat rfl (oT rfl) (by intro _; exact ⟨rfl, hra⟩) rfl) ?_
   refine za ?_
   refine za ?_
   refine rpZ 99 rfl (op_idx_sl0 (X.length + (i + j) / 2) rfl (oT rfl) (oT rfl) (by intro _; constructor <;> omega)) ?_
   refine rlZ 100 rfl (op_load1_flat rfl (oT rfl) (by intro _; exact ⟨rfl, hrb⟩) rfl) ?_
   refine rpZ 101 rfl (op_call_pureC (fun _ => hp y z) rfl (oT rfl) (oS (oT rfl) (oS (oT rfl) Opds.nil))) ?_
   refine zbn ?_
   refine zbj ?_
   refine zs ?_
   refine nK ?_
   refine n_cond _ rfl (fun hb => ?_) (fun hb => ?_)
   ·refine nK ?_
    refine zb ?_
    refine za ?_
    refine zl ?_
    refine zd ?_
    refine zc ?_
    refine nK ?_
    refine Next.weakS [0] [] (by rfl) (wK hC) wG wHSI4a rfl ((hKa (by simpa using hb)))
   refine nK ?_
   refine zb ?_
   refine za ?_
   refine zd ?_
   refine zc ?_
   refine nK ?_
   refine Next.weakS [0] [] (by rfl) (wK hC) wG wHSI4a rfl ((hKb (by simpa using hb)))
  have hij : i = j := by have := of_decide_eq_false hb; omega
  subst hij
  have ho1 := one_right o sA h2 (fun h => h3 h _) h4
  refine nK ?_
  refine zb ?_
  refine za ?_
  refine zd ?_
  refine zc ?_
  refine nK ?_
  refine n_loop (ι := Nat) (fun k => ([(0, .sl 0 1 0 N), (14, IV .i64 (X.length + i : Nat)), (17, IV .i64 (X.length + k : Nat))], [(0, OF (X ++ (A.take k ++ y :: (A.drop k ++ Y))))], 1)) (fun k => i ≤ k ∧ k ≤ A.length) (fun k => k) A.length ⟨h2, Nat.le_refl _⟩ ?_ ?_
  ·have e8 : X ++ (A.take A.length ++ y :: (A.drop A.length ++ Y)) = X ++ (A ++ ([y] ++ Y)) := by simp
   dsimp only
   rw [e8]
   refine Next.weakS [0] [] (by rfl) (wK hC) wG wHSI4a rfl (rel_intro)
  intro k ⟨hki, hkA⟩ K2 hK2
  dsimp only at hK2 ⊢
  refine nK ?_
  refine zb ?_
  refine za ?_
  refine za ?_
  refine zcn ?_
  refine zc ?_
  refine nK ?_
  refine n_cond _ rfl (fun hb => ?_) (fun hb => ?_)
  ·have hk1 : i < k := by have := of_decide_eq_true hb; omega
   have ra : ((X ++ (A.take k ++ y :: (A.drop k ++ Y))).map encF)[X.length + k]? = some (encF y) := by rw [List.getElem?_map, ins_at (by omega)]; rfl
   have hkp : k - 1 < A.length := by omega
   have rp : ((X ++ (A.take k ++ y :: (A.drop k ++ Y))).map encF)[X.length + (k - 1)]? = some (encF A[k - 1]) := by rw [List.getElem?_map, ins_prev (by omega) (by omega)]; rfl
   have rp2 : ∀ z, (((X ++ (A.take k ++ y :: (A.drop k ++ Y))).map encF).set (X.length + k) z)[X.length + (k - 1)]? = some (encF A[k - 1]) := fun z => by rw [List.getElem?_set_ne (by omega)]; exact rp
   have hK3 := hK2 (k - 1) ⟨by omega, by omega⟩ (by omega)
   rw [← ins_step (by omega) hkA] at hK3
   generalize X ++ (A.take k ++ y :: (A.drop k ++ Y)) = W at *
   generalize A[k - 1] = z at *
   refine nK ?_
   refine s_draw mixed ?_
   refine za ?_
   refine za ?_
   refine za ?_
   refine za ?_
   refine zbx ?_
   refine za ?_
   refine za ?_
   refine zbx ?_
   refine rpZ 121 rfl (op_idx_sl0 (X.length + (k - 1)) rfl (oT rfl) (oT rfl) (by intro _; constructor <;> omega)) ?_
   refine rlZ 122 rfl (op_load1_flat rfl (oT rfl) (by intro _; exact ⟨rfl, rp⟩) rfl) ?_
   refine za ?_
   refine za ?_
   refine rpZ 125 rfl (op_idx_sl0 (X.length + k) rfl (oT rfl) (oT rfl) (by intro _; constructor <;> omega)) ?_
   refine rlZ 126 rfl (op_load1_flat rfl (oT rfl) (by intro _; exact ⟨rfl, ra⟩) rfl) ?_
   refine rpZ 127 rfl (op_idx_sl0 (X.length + k) rfl (oT rfl) (oT rfl) (by intro _; constructor <;> omega)) ?_
   refine Run.effW (dd := none) rfl rfl (op_store_flat rfl (oT rfl) (oT rfl) tC rfl rfl ra tS) tE ?_
   refine rpZ 128 rfl (op_idx_sl0 (X.length + (k - 1)) rfl (oT rfl) (oT rfl) (by intro _; constructor <;> omega)) ?_
   refine Run.effW (dd := none) rfl rfl (op_store_flat rfl (oT rfl) (oT rfl) tC rfl rfl (rp2 _) tS) tE ?_
   refine zs ?_
   refine nK ?_
   refine zb ?_
   refine za ?_
   refine zbx ?_
   refine zd ?_
   refine zc ?_
   refine nK ?_
   refine Next.weak [0] [] (by rfl) (keepsN hC _ rfl) wG (by exact ⟨ent_same rfl rfl (flEq rfl (by rw [List.map_set, List.map_set] <;> rfl)) trivial, trivial⟩) wN hK3
  have hk1 : k = i := by have := of_decide_eq_false hb; omega
  subst hk1
  rw [ho1]
  have e9 : X ++ (A.take k ++ y :: A.drop k ++ Y) = X ++ (A.take k ++ y :: (A.drop k ++ Y)) := by simp
  rw [e9]
  refine nK ?_
  refine Next.weak [0] [] (by rfl) (keepsN hC _ rfl) (G' := []) (H' := [(0, OF (X ++ (A.take k ++ y :: (A.drop k ++ Y))))]) trivial wR wN ?_
  exact n_out0 rfl
 have hq1 : B.length ≠ 1 := by simp at hb; omega
 clear hb
 generalize hh : (A.length + B.length) / 2 = h
 refine nK ?_
 refine zb ?_
 refine za ?_
 refine za ?_
 refine zbc ?_
 refine zca ?_
 refine rpZ 133 rfl (op_shr (n := 1) rfl (oT rfl) oC (by intro _; simp only [IntKind.bits]; omega)) ?_
 refine zca ?_
 refine zd ?_
 refine zc ?_
 refine nK ?_
 refine zb ?_
 refine za ?_
 refine za ?_
 refine zbc ?_
 refine zd ?_
 refine zc ?_
 refine nK ?_
 refine zb ?_
 refine ze ?_
 refine ze ?_
 refine zc ?_
 refine nK ?_
 refine zb ?_
 refine za ?_
 refine za ?_
 refine zcn ?_
 refine zc ?_
 refine nK ?_
 have hsr : ∃ s0 r0 : Nat, s0 ≤ r0 ∧ r0 ≤ A.length ∧ r0 ≤ h ∧ h ≤ s0 + B.length ∧ (s0 = 0 ∨ s0 + B.length = h) ∧ (r0 = h ∨ r0 = A.length) ∧ (h < A.length → s0 + B.length = h ∧ r0 = h) ∧ (A.length ≤ h → s0 = 0 ∧ r0 = A.length) := by
  by_cases h1 : h < A.length
  ·exact ⟨h - B.length, h, by omega, by omega, by omega, by omega, by omega, by omega, by omega, by omega⟩
  exact ⟨0, A.length, by omega, by omega, by omega, by omega, by omega, by omega, by omega, by omega⟩
 obtain ⟨s0, r0, i1, i2, i3, i4, i5, i6, i7, i8⟩ := hsr
 refine n_join [(0, .sl 0 1 0 N), (1, IV .i64 X.length), (2, IV .i64 (X.length + A.length : Nat)), (3, IV .i64 (X.length + A.length + B.length : Nat)), (4, (PV.fz (.clo gf caps))), (18, IV .i64 (X.length + h : Nat)), (19, IV .i64 (X.length + h + (X.length + A.length) : Nat)), (20, IV .i64 (X.length + s0 : Nat)), (21, IV .i64 (X.length + r0 : Nat))] [(0, OF (X ++ (A ++ (B ++ Y))))] 1 ?_ ?_
 ·refine nK ?_
  refine n_cond _ rfl (fun hb => ?_) (fun hb => ?_)
  ·have h1 : h < A.length := by have := of_decide_eq_true hb; omega
   refine nK ?_
   refine zb ?_
   refine za ?_
   refine za ?_
   refine zbw ?_
   refine zd ?_
   refine zc ?_
   refine nK ?_
   refine zb ?_
   refine za ?_
   refine zd ?_
   refine zc ?_
   refine nK ?_
   refine Next.weakS [0] [] (by rfl) (wK hC) wG wHSI4a rfl (rel_intro)
  have h1 : A.length ≤ h := by have := of_decide_eq_false hb; omega
  refine nK ?_
  refine zb ?_
  refine za ?_
  refine zd ?_
  refine zc ?_
  refine nK ?_
  refine zb ?_
  refine za ?_
  refine zd ?_
  refine zc ?_
  refine nK ?_
  refine Next.weakS [0] [] (by rfl) (wK hC) wG wHSI4a rfl (rel_intro)
 refine nK ?_
 refine zb ?_
 refine za ?_
 refine zbx ?_
 refine zd ?_
 refine zc ?_
 refine nK ?_
 refine n_loop (ι := Nat × Nat) (fun s => ([(0, .sl 0 1 0 N), (1, IV .i64 X.length), (2, IV .i64 (X.length + A.length : Nat)), (3, IV .i64 (X.length + A.length + B.length : Nat)), (4, (PV.fz (.clo gf caps))), (18, IV .i64 (X.length + h : Nat)), (19, IV .i64 (X.length + h + (X.length + A.length) : Nat)), (20, IV .i64 (X.length + s.1 : Nat)), (21, IV .i64 (X.length + s.2 : Nat)), (22, IV .i64 (X.length + h + (X.length + A.length) - 1 : Nat))], [(0, OF (X ++ (A ++ (B ++ Y))))], 1)) (fun s => s0 ≤ s.1 ∧ s.1 ≤ s.2 ∧ s.2 ≤ r0 ∧ (∀ (_ : s0 < s.1) (h1 : h - s.1 < B.length) (h2 : s.1 - 1 < A.length), ltS c B[h - s.1] A[s.1 - 1] = false) ∧ (∀ (_ : s.2 < r0) (h1 : h - 1 - s.2 < B.length) (h2 : s.2 < A.length), ltS c B[h - 1 - s.2] A[s.2] = true)) (fun s => s.2 - s.1) (s0, r0) ⟨Nat.le_refl _, i1, Nat.le_refl _, fun h => by simp at h, fun h => by simp at h⟩ ?_ ?_
 ·refine Next.weakS [0] [] (by rfl) (wK hC) wG wHSI4a rfl (rel_intro)
 intro ⟨i, j⟩ ⟨h1, h2, h3, h4, h5⟩ K hK
 dsimp only at h1 h2 h3 h4 h5 hK ⊢
 refine nK ?_
 refine zb ?_
 refine za ?_
 refine za ?_
 refine zp ?_
 refine zc ?_
 refine nK ?_
 refine n_cond _ rfl (fun hb => ?_) (fun hb => ?_)
 ·have hij : i < j := by have := of_decide_eq_true hb; omega
  have hha : (i + j) / 2 < A.length := by omega
  have hhb : h - 1 - (i + j) / 2 < B.length := by omega
  have hra : ((X ++ (A ++ (B ++ Y))).map encF)[X.length + (i + j) / 2]? = some (encF A[(i + j) / 2]) := by
   rw [List.getElem?_map, List.getElem?_append_right (by omega), List.getElem?_append_left (by omega), show X.length + (i + j) / 2 - X.length = (i + j) / 2 by omega, List.getElem?_eq_getElem hha]; rfl
  have hrb : ((X ++ (A ++ (B ++ Y))).map encF)[X.length + A.length + (h - 1 - (i + j) / 2)]? = some (encF B[h - 1 - (i + j) / 2]) := by
   rw [List.getElem?_map, List.getElem?_append_right (by omega), List.getElem?_append_right (by omega), List.getElem?_append_left (by omega), show X.length + A.length + (h - 1 - (i + j) / 2) - X.length - A.length = h - 1 - (i + j) / 2 by omega, List.getElem?_eq_getElem hhb]; rfl
  have hKa := fun (hq : ltS c B[h - 1 - (i + j) / 2] A[(i + j) / 2] = false) => hK ((i + j) / 2 + 1, j) ⟨by dsimp only; omega, by dsimp only; omega, by dsimp only; omega, fun _ _ _ => by
   simp only [show h - ((i + j) / 2 + 1) = h - 1 - (i + j) / 2 by omega, Nat.add_sub_cancel]; exact hq, h5⟩ (by dsimp only; omega)
  have hKb := fun (hq : ltS c B[h - 1 - (i + j) / 2] A[(i + j) / 2] = true) => hK (i, (i + j) / 2) ⟨by dsimp only; omega, by dsimp only; omega, by dsimp only; omega, h4, fun _ _ _ => hq⟩ (by dsimp only; omega)
  generalize A[(i + j) / 2] = u at *
  generalize B[h - 1 - (i + j) / 2] = v at *
  dsimp only at hKa hKb
  refine nK ?_
  refine zb ?_
  refine za ?_
  refine za ?_
  refine zbc ?_
  refine zca ?_
  refine rpZ 156 rfl (op_shr (n := 1) rfl (oT rfl) oC (by intro _; simp only [IntKind.bits]; omega)) ?_
  refine zca ?_
  refine zd ?_
  refine zc ?_
  refine nK ?_
  refine s_draw mixed ?_
  refine za ?_
  refine za ?_
  refine za ?_
  refine za ?_
  refine zbw ?_
  refine rpZ 163 rfl (op_idx_sl0 (X.length + A.length + (h - 1 - (i + j) / 2)) rfl (oT rfl) (oT rfl) (by intro _; constructor <;> omega)) ?_
  refine rlZ 164 rfl (op_load1_flat rfl (oT rfl) (by intro _; exact ⟨rfl, hrb⟩) rfl) ?_
  refine za ?_
  refine za ?_
  refine rpZ 167 rfl (op_idx_sl0 (X.length + (i + j) / 2) rfl (oT rfl) (oT rfl) (by intro _; constructor <;> omega)) ?_
  refine rlZ 168 rfl (op_load1_flat rfl (oT rfl) (by intro _; exact ⟨rfl, hra⟩) rfl) ?_
  refine rpZ 169 rfl (op_call_pureC (fun _ => hp v u) rfl (oT rfl) (oS (oT rfl) (oS (oT rfl) Opds.nil))) ?_
  refine zbn ?_
  refine zbj ?_
  refine zs ?_
  refine nK ?_
  refine n_cond _ rfl (fun hb => ?_) (fun hb => ?_)
  ·refine nK ?_
   refine zb ?_
   refine za ?_
   refine zl ?_
   refine zd ?_
   refine zc ?_
   refine nK ?_
   refine Next.weakS [0] [] (by rfl) (wK hC) wG wHSI4a rfl ((hKa (by simpa using hb)))
  refine nK ?_
  refine zb ?_
  refine za ?_
  refine zd ?_
  refine zc ?_
  refine nK ?_
  refine Next.weakS [0] [] (by rfl) (wK hC) wG wHSI4a rfl ((hKb (by simpa using hb)))
 have hij : i = j := by have := of_decide_eq_false hb; omega
 subst hij
 have hT1 : h - i ≤ B.length := by omega
 have hS1 : i ≤ A.length := by omega
 have hcut := sym_cut o sA sB hS1 hT1 (fun k1 k2 => h4 (by omega) k2 (by omega)) (fun k1 k2 => by
  have := h5 (by omega) (by omega) k1
  simp only [show h - 1 - i = h - i - 1 by omega] at this; exact this)
 generalize hTt : h - i = t at *
 rw [hcut]
 have l1 : (A.take i).length = i := by simp; omega
 have l2 : (A.drop i).length = A.length - i := by simp
 have l3 : (B.take t).length = t := by simp; omega
 have l4 : (B.drop t).length = B.length - t := by simp
 have sA1 : Srt (ltS c) (A.take i) := List.Pairwise.sublist (List.take_sublist _ _) sA
 have sA2 : Srt (ltS c) (A.drop i) := List.Pairwise.sublist (List.drop_sublist _ _) sA
 have sB1 : Srt (ltS c) (B.take t) := List.Pairwise.sublist (List.take_sublist _ _) sB
 have sB2 : Srt (ltS c) (B.drop t) := List.Pairwise.sublist (List.drop_sublist _ _) sB
 have eA : A = A.take i ++ A.drop i := (List.take_append_drop i A).symm
 have eB : B = B.take t ++ B.drop t := (List.take_append_drop t B).symm
 have hD0 : X ++ (A ++ (B ++ Y)) = X ++ (A.take i ++ (A.drop i ++ (B.take t ++ (B.drop t ++ Y)))) := by
  rw [← List.append_assoc (A.take i), List.take_append_drop, ← List.append_assoc (B.take t), List.take_append_drop]
 rw [hD0]
 generalize A.take i = A1 at *
 generalize A.drop i = A2 at *
 generalize B.take t = B1 at *
 generalize B.drop t = B2 at *
 clear hcut hK h4 h5 hD0 sA sB
 refine nK ?_
 refine zb ?_
 refine za ?_
 refine za ?_
 refine zbw ?_
 refine zd ?_
 refine zc ?_
 refine nK ?_
 refine zb ?_
 refine za ?_
 refine za ?_
 refine zp ?_
 refine za ?_
 refine zf ?_
 refine zf ?_
 refine zbk ?_
 refine zt ?_
 refine zc ?_
 refine nK ?_
 refine n_join [(0, .sl 0 1 0 N), (1, IV .i64 X.length), (2, IV .i64 (X.length + A.length : Nat)), (3, IV .i64 (X.length + A.length + B.length : Nat)), (4, (PV.fz (.clo gf caps))), (18, IV .i64 (X.length + h : Nat)), (20, IV .i64 (X.length + i : Nat)), (24, IV .i64 (X.length + A.length + t : Nat))] [(0, OF (X ++ (A1 ++ (B1 ++ (A2 ++ (B2 ++ Y))))))] 1 ?_ ?_
 ·refine nK ?_
  refine n_cond _ rfl (fun hb => ?_) (fun hb => ?_)
  ·have hb1 : i < A.length ∧ 0 < t := by simp at hb; omega
   have hr := rotate_i gf caps (X ++ A1) A2 B1 (B2 ++ Y) (X ++ (A1 ++ (A2 ++ (B1 ++ (B2 ++ Y))))) (X ++ (A1 ++ (B1 ++ (A2 ++ (B2 ++ Y))))) N (X.length + i : Nat) (X.length + A.length : Nat) (((X.length + h + (X.length + A.length) : Nat) : Int) - ((X.length + i : Nat) : Int)) (by simp; omega) hn (by omega) (by omega) (by simp; omega) (by simp; omega) (by simp; omega) (by simp) (by simp)
   refine nK ?_
   refine zb ?_
   refine za ?_
   refine za ?_
   refine za ?_
   refine za ?_
   refine za ?_
   refine Run.eff (dd := some 191) rfl rfl (op_call (n := 1) (n' := 1) [0] (fun _ => hr) rfl (Opd.func _) (oS (oT rfl) (oS (oT rfl) (oS (oT rfl) (oS (oT rfl) (oS (oT rfl) Opds.nil))))) rfl rfl (Lent.of rfl rfl (by exact ⟨⟨rfl, rfl, rfl, trivial⟩, trivial⟩) rfl) rfl rfl rfl rfl rfl) ?_
   refine zc ?_
   refine nK ?_
   refine Next.weakS [0] [] (by rfl) (wK hC) wG wHSI4a rfl (rel_intro)
  have hb1 : ¬ (i < A.length ∧ 0 < t) := by simp at hb; omega
  have e1 : A1 ++ (A2 ++ (B1 ++ (B2 ++ Y))) = A1 ++ (B1 ++ (A2 ++ (B2 ++ Y))) := by
   by_cases h6 : A2 = []
   ·rw [h6]; simp
   have : B1 = [] := by
    have : A2.length ≠ 0 := fun h => h6 (List.length_eq_zero_iff.1 h)
    exact List.length_eq_zero_iff.1 (by omega)
   rw [this]; simp
  rw [e1]
  refine nK ?_
  refine Next.weakS [0] [] (by rfl) (wK hC) wG wHSI4a rfl (rel_intro)
 refine nK ?_
 refine zb ?_
 refine za ?_
 refine za ?_
 refine zp ?_
 refine za ?_
 refine zf ?_
 refine zf ?_
 refine zbk ?_
 refine zt ?_
 refine zc ?_
 refine nK ?_
 refine n_join [(0, .sl 0 1 0 N), (3, IV .i64 (X.length + A.length + B.length : Nat)), (4, (PV.fz (.clo gf caps))), (18, IV .i64 (X.length + h : Nat)), (24, IV .i64 (X.length + A.length + t : Nat))] [(0, OF (X ++ (mrg (ltS c) A1 B1 ++ (A2 ++ (B2 ++ Y)))))] 1 ?_ ?_
 ·refine nK ?_
  refine n_cond _ rfl (fun hb => ?_) (fun hb => ?_)
  ·have hb1 : 0 < i ∧ i < h := by simp at hb; omega
   have hr := ih X A1 B1 (A2 ++ (B2 ++ Y)) (X ++ (A1 ++ (B1 ++ (A2 ++ (B2 ++ Y))))) (X ++ (mrg (ltS c) A1 B1 ++ (A2 ++ (B2 ++ Y)))) X.length (X.length + i : Nat) (X.length + h : Nat) (by omega) (by omega) (by omega) sA1 sB1 (by simp; omega) rfl (by omega) (by omega) rfl rfl
   refine nK ?_
   refine zb ?_
   refine za ?_
   refine za ?_
   refine za ?_
   refine za ?_
   refine za ?_
   refine Run.eff (dd := some 205) rfl rfl (op_call (n := 1) (n' := 1) [0] (fun _ => hr) rfl (Opd.func _) (oS (oT rfl) (oS (oT rfl) (oS (oT rfl) (oS (oT rfl) (oS (oT rfl) Opds.nil))))) rfl rfl (Lent.of rfl rfl (by exact ⟨⟨rfl, rfl, rfl, trivial⟩, trivial⟩) rfl) rfl rfl rfl rfl rfl) ?_
   refine zc ?_
   refine nK ?_
   refine Next.weakS [0] [] (by rfl) (wK hC) wG wHSI4a rfl (rel_intro)
  have hb1 : ¬ (0 < i ∧ i < h) := by simp at hb; omega
  have e1 : A1 ++ (B1 ++ (A2 ++ (B2 ++ Y))) = mrg (ltS c) A1 B1 ++ (A2 ++ (B2 ++ Y)) := by
   by_cases h6 : A1 = []
   ·rw [h6, mrg_nil_left]; simp
   have : B1 = [] := by
    have : A1.length ≠ 0 := fun h => h6 (List.length_eq_zero_iff.1 h)
    exact List.length_eq_zero_iff.1 (by omega)
   rw [this, mrg_nil]; simp
  rw [e1]
  refine nK ?_
  refine Next.weakS [0] [] (by rfl) (wK hC) wG wHSI4a rfl (rel_intro)
 have l5 : (mrg (ltS c) A1 B1).length = h := by rw [mrg_len _ _ _ (Nat.le_refl _)]; omega
 generalize mrg (ltS c) A1 B1 = M1 at *
 refine nK ?_
 refine zb ?_
 refine za ?_
 refine za ?_
 refine zp ?_
 refine za ?_
 refine zf ?_
 refine zf ?_
 refine zbk ?_
 refine zt ?_
 refine zc ?_
 refine nK ?_
 refine n_cond _ rfl (fun hb => ?_) (fun hb => ?_)
 ·have hb1 : h < A.length + t ∧ t < B.length := by simp at hb; omega
  have hr := ih (X ++ M1) A2 B2 Y (X ++ (M1 ++ (A2 ++ (B2 ++ Y)))) (X ++ (M1 ++ mrg (ltS c) A2 B2 ++ Y)) (X.length + h : Nat) (X.length + A.length + t : Nat) (X.length + A.length + B.length : Nat) (by omega) (by omega) (by omega) sA2 sB2 (by simp; omega) (by simp; omega) (by simp; omega) (by simp; omega) (by simp) (by simp)
  refine nK ?_
  refine zb ?_
  refine za ?_
  refine za ?_
  refine za ?_
  refine za ?_
  refine za ?_
  refine Run.eff (dd := some 219) rfl rfl (op_call (n := 1) (n' := 1) [0] (fun _ => hr) rfl (Opd.func _) (oS (oT rfl) (oS (oT rfl) (oS (oT rfl) (oS (oT rfl) (oS (oT rfl) Opds.nil))))) rfl rfl (Lent.of rfl rfl (by exact ⟨⟨rfl, rfl, rfl, trivial⟩, trivial⟩) rfl) rfl rfl rfl rfl rfl) ?_
  refine zc ?_
  refine nK ?_
  refine Next.weak [0] [] (by rfl) (keepsN hC _ rfl) (G' := []) (H' := [(0, OF (X ++ (M1 ++ mrg (ltS c) A2 B2 ++ Y)))]) trivial wR wN ?_
  exact n_out0 rfl
 have hb1 : ¬ (h < A.length + t ∧ t < B.length) := by simp at hb; omega
 have e1 : X ++ (M1 ++ (A2 ++ (B2 ++ Y))) = X ++ (M1 ++ mrg (ltS c) A2 B2 ++ Y) := by
  by_cases h6 : A2 = []
  ·rw [h6, mrg_nil_left]; simp
  have : B2 = [] := by
   have : A2.length ≠ 0 := fun h => h6 (List.length_eq_zero_iff.1 h)
   exact List.length_eq_zero_iff.1 (by omega)
  rw [this, mrg_nil]; simp
 rw [e1]
 refine nK ?_
 refine Next.weak [0] [] (by rfl) (keepsN hC _ rfl) (G' := []) (H' := [(0, OF (X ++ (M1 ++ mrg (ltS c) A2 B2 ++ Y)))]) trivial wR wN ?_
 exact n_out0 rfl
open Go Go.RT Go.Proofs Go.Pl
set_option maxRecDepth 20000
set_option maxHeartbeats 4000000
theorem wHSI5a {α : Prop} (h : α := by repeat (first | exact trivial | refine ⟨wS, ?_⟩ | refine ⟨ent_same rfl rfl (rfEq rfl tU) tL, ?_⟩ | refine ⟨ent_same rfl rfl (flEq rfl (by first | (simp; done) | (simp; omega) | (simp [encF]; done) | simp [maxC, minC])) trivial, ?_⟩)) : α := h
theorem stable_c {dn : Nat} (gf : Nat) [FnB Tryz.prog gf] (caps : List FV) (c : (Fin dn) → (Fin dn) → Int) (o : SWk (ltS c)) (hp : ∀ x y, Pure Tryz.prog gf ([If .i64 (x.val : Int), If .i64 (y.val : Int)] ++ caps) (If .i64 (c x y))) (l : List (Fin dn)) (hn : l.length ≤ 2000000) :
  Meets Tryz.prog 86 [.sl 0 1 0 l.length, IV .i64 l.length, (PV.fz (.clo gf caps))] 1 [(0, OF l)] (.fz (.tup [])) [(0, OF (srtS (ltS c) l))] 1 := by
 generalize hN : l.length = N at *
 refine Meets.intro Tryz.func86 rfl (Nat.le_of_ble_eq_true rfl) fun C hC => ?_
 simp only [List.map, argEnv, Nat.reduceAdd]
 refine nK ?_
 refine zb ?_
 refine ze ?_
 refine zc ?_
 refine nK ?_
 refine zb ?_
 refine za ?_
 refine ze ?_
 refine zd ?_
 refine zc ?_
 refine nK ?_
 refine n_loop (ι := List (Fin dn) × List (Fin dn)) (fun s => ([(0, .sl 0 1 0 N), (1, IV .i64 N), (2, (PV.fz (.clo gf caps))), (6, IV .i64 20), (7, IV .i64 s.1.length), (8, IV .i64 (s.1.length + 20 : Nat))], [(0, OF (s.1 ++ s.2))], 1)) (fun s => s.1.length + s.2.length = N ∧ s.1 ++ bsL (ltS c) 20 s.2 = bsL (ltS c) 20 l) (fun s => s.2.length) ([], l) ⟨by simp [hN], rfl⟩ ?_ ?_
 ·refine Next.weakS [0] [] (by rfl) (wK hC) wG wHSI5a rfl (rel_intro)
 intro ⟨P, R⟩ ⟨h1, h2⟩ K hK
 dsimp only at h1 h2 hK ⊢
 refine nK ?_
 refine zb ?_
 refine za ?_
 refine za ?_
 refine rpZ 13 rfl (op_leq rfl (oT rfl) (oT rfl)) ?_
 refine zc ?_
 refine nK ?_
 refine n_cond _ rfl (fun hb => ?_) (fun hb => ?_)
 ·have h3 : 20 ≤ R.length := by have := of_decide_eq_true hb; omega
  have hr := ins_c gf caps c o hp P (R.take 20) (R.drop 20) (P ++ R) ((P ++ srtS (ltS c) (R.take 20)) ++ R.drop 20) N P.length (P.length + 20 : Nat) (by simp; omega) hn rfl (by simp; omega) (by simp) (by simp)
  have e2 : (srtS (ltS c) (R.take 20)).length = 20 := by rw [srtS_len]; simp; omega
  have hK1 := hK (P ++ srtS (ltS c) (R.take 20), R.drop 20) ⟨by simp [e2]; omega, by
   dsimp only
   rw [← h2, bsL_cut (l := R) (by omega) h3]; simp⟩ (by simp; omega)
  dsimp only at hK1
  rw [List.length_append, e2] at hK1
  refine nK ?_
  refine zb ?_
  refine za ?_
  refine za ?_
  refine za ?_
  refine za ?_
  refine Run.eff (dd := some 18) rfl rfl (op_call (n := 1) (n' := 1) [0] (fun _ => hr) rfl (Opd.func _) (oS (oT rfl) (oS (oT rfl) (oS (oT rfl) (oS (oT rfl) Opds.nil)))) rfl rfl (Lent.of rfl rfl (by exact ⟨⟨rfl, rfl, rfl, trivial⟩, trivial⟩) rfl) rfl rfl rfl rfl rfl) ?_
  refine zc ?_
  refine nK ?_
  refine zb ?_
  refine za ?_
  refine zd ?_
  refine zc ?_
  refine nK ?_
  refine zb ?_
  refine za ?_
  refine za ?_
  refine zbc ?_
  refine zd ?_
  refine zc ?_
  refine nK ?_
  refine Next.weakS [0] [] (by rfl) (wK hC) wG wHSI5a rfl (hK1)
 have h3 : R.length < 20 := by have := of_decide_eq_false hb; omega
 have hr := ins_c gf caps c o hp P R [] (P ++ R) (bsL (ltS c) 20 l) N P.length N (by simp; omega) hn rfl (by omega) (by simp) (by rw [← h2, bsL_small (by omega)]; simp)
 clear hK
 refine nK ?_
 refine zb ?_
 refine za ?_
 refine za ?_
 refine za ?_
 refine za ?_
 refine Run.eff (dd := some 27) rfl rfl (op_call (n := 1) (n' := 1) [0] (fun _ => hr) rfl (Opd.func _) (oS (oT rfl) (oS (oT rfl) (oS (oT rfl) (oS (oT rfl) Opds.nil)))) rfl rfl (Lent.of rfl rfl (by exact ⟨⟨rfl, rfl, rfl, trivial⟩, trivial⟩) rfl) rfl rfl rfl rfl rfl) ?_
 refine zc ?_
 refine nK ?_
 refine n_loop (ι := Nat) (fun w => ([(0, .sl 0 1 0 N), (1, IV .i64 N), (2, (PV.fz (.clo gf caps))), (6, IV .i64 w)], [(0, OF (bsL (ltS c) w l))], 1)) (fun w => 0 < w ∧ w ≤ 4000000) (fun w => 4000000 - w) 20 ⟨by omega, by omega⟩ ?_ ?_
 ·refine Next.weakS [0] [] (by rfl) (wK hC) wG wHSI5a rfl (rel_intro)
 intro w ⟨hw, hw2⟩ K2 hK2
 dsimp only at hK2 ⊢
 refine nK ?_
 refine zb ?_
 refine za ?_
 refine za ?_
 refine zp ?_
 refine zc ?_
 refine nK ?_
 refine n_cond _ rfl (fun hb => ?_) (fun hb => ?_)
 ·have hwn : w < N := by have := of_decide_eq_true hb; omega
  refine nK ?_
  refine zb ?_
  refine za ?_
  refine rpZ 32 rfl (op_mul rfl oC (oT rfl) tI) ?_
  refine ze ?_
  refine zd ?_
  refine zc ?_
  refine nK ?_
  refine n_loop (ι := List (Fin dn) × List (Fin dn)) (fun s => ([(0, .sl 0 1 0 N), (1, IV .i64 N), (2, (PV.fz (.clo gf caps))), (6, IV .i64 w), (7, IV .i64 s.1.length), (8, IV .i64 (s.1.length + 2 * w : Nat))], [(0, OF (s.1 ++ bsL (ltS c) w s.2))], 1)) (fun s => s.1.length + s.2.length = N ∧ s.1 ++ bsL (ltS c) (2 * w) s.2 = bsL (ltS c) (2 * w) l) (fun s => s.2.length) ([], l) ⟨by simp [hN], rfl⟩ ?_ ?_
  ·simp only [List.length_nil, Nat.zero_add, List.nil_append]
   refine Next.weakS [0] [] (by rfl) (wK hC) wG wHSI5a rfl (rel_intro)
  intro ⟨P, R⟩ ⟨h1, h2⟩ K3 hK3
  dsimp only at h1 h2 hK3 ⊢
  have lw := bsL_len (lt := ltS c) w hw _ R (Nat.le_refl _)
  refine nK ?_
  refine zb ?_
  refine za ?_
  refine za ?_
  refine rpZ 35 rfl (op_leq rfl (oT rfl) (oT rfl)) ?_
  refine zc ?_
  refine nK ?_
  refine n_cond _ rfl (fun hb => ?_) (fun hb => ?_)
  ·have h3 : 2 * w ≤ R.length := by have := of_decide_eq_true hb; omega
   obtain ⟨q1, q2⟩ := bsL_two o hw h3
   have e1 : (srtS (ltS c) (R.take w)).length = w := by rw [srtS_len]; simp; omega
   have e2 : (srtS (ltS c) ((R.drop w).take w)).length = w := by rw [srtS_len]; simp; omega
   have e3 : (bsL (ltS c) w (R.drop (2 * w))).length = R.length - 2 * w := by rw [bsL_len w hw _ _ (Nat.le_refl _)]; simp
   have hr := sym_c gf caps c o hp N hn (2 * w) P (srtS (ltS c) (R.take w)) (srtS (ltS c) ((R.drop w).take w)) (bsL (ltS c) w (R.drop (2 * w))) (P ++ bsL (ltS c) w R) ((P ++ mrg (ltS c) (srtS (ltS c) (R.take w)) (srtS (ltS c) ((R.drop w).take w))) ++ bsL (ltS c) w (R.drop (2 * w))) P.length (P.length + w) (P.length + 2 * w : Nat) (by omega) (by omega) (by omega) (srtS_srt o _) (srtS_srt o _) (by omega) rfl (by omega) (by omega) (by rw [q1]) (by simp)
   have e4 : (mrg (ltS c) (srtS (ltS c) (R.take w)) (srtS (ltS c) ((R.drop w).take w))).length = 2 * w := by rw [mrg_len _ _ _ (Nat.le_refl _)]; omega
   have hK4 := hK3 (P ++ mrg (ltS c) (srtS (ltS c) (R.take w)) (srtS (ltS c) ((R.drop w).take w)), R.drop (2 * w)) ⟨by simp [e4]; omega, by
    dsimp only
    rw [← h2, q2]; simp⟩ (by simp; omega)
   dsimp only at hK4
   rw [List.length_append, e4] at hK4
   refine nK ?_
   refine zb ?_
   refine za ?_
   refine za ?_
   refine za ?_
   refine za ?_
   refine zbc ?_
   refine za ?_
   refine za ?_
   refine Run.eff (dd := some 43) rfl rfl (op_call (n := 1) (n' := 1) [0] (fun _ => hr) rfl (Opd.func _) (oS (oT rfl) (oS (oT rfl) (oS (oT rfl) (oS (oT rfl) (oS (oT rfl) Opds.nil))))) rfl rfl (Lent.of rfl rfl (by exact ⟨⟨rfl, rfl, rfl, trivial⟩, trivial⟩) rfl) rfl rfl rfl rfl rfl) ?_
   refine zc ?_
   refine nK ?_
   refine zb ?_
   refine za ?_
   refine zd ?_
   refine zc ?_
   refine nK ?_
   refine zb ?_
   refine za ?_
   refine za ?_
   refine rpZ 47 rfl (op_mul rfl oC (oT rfl) tI) ?_
   refine zbc ?_
   refine zd ?_
   refine zc ?_
   refine nK ?_
   refine Next.weakS [0] [] (by rfl) (wK hC) wG wHSI5a rfl (hK4)
  have h3 : R.length < 2 * w := by have := of_decide_eq_false hb; omega
  have hK5 := hK2 (w * 2) ⟨by omega, by omega⟩ (by omega)
  rw [Nat.mul_comm w 2, ← h2] at hK5
  clear hK3
  refine nK ?_
  refine zb ?_
  refine za ?_
  refine za ?_
  refine zbc ?_
  refine zd ?_
  refine zc ?_
  refine nK ?_
  refine zb ?_
  refine za ?_
  refine za ?_
  refine zp ?_
  refine zc ?_
  refine nK ?_
  refine n_cond _ rfl (fun hb => ?_) (fun hb => ?_)
  ·have h4 : w < R.length := by have := of_decide_eq_true hb; omega
   obtain ⟨q1, q2⟩ := bsL_last o hw h4 h3
   have e1 : (srtS (ltS c) (R.take w)).length = w := by rw [srtS_len]; simp; omega
   have e2 : (srtS (ltS c) (R.drop w)).length = R.length - w := by rw [srtS_len]; simp
   have hr := sym_c gf caps c o hp N hn (2 * w) P (srtS (ltS c) (R.take w)) (srtS (ltS c) (R.drop w)) [] (P ++ bsL (ltS c) w R) (P ++ bsL (ltS c) (2 * w) R) P.length (P.length + w) N (by omega) (by omega) (by omega) (srtS_srt o _) (srtS_srt o _) (by simp; omega) rfl (by omega) (by omega) (by rw [q1]; simp) (by rw [q2]; simp)
   refine nK ?_
   refine zb ?_
   refine za ?_
   refine za ?_
   refine za ?_
   refine za ?_
   refine za ?_
   refine Run.eff (dd := some 60) rfl rfl (op_call (n := 1) (n' := 1) [0] (fun _ => hr) rfl (Opd.func _) (oS (oT rfl) (oS (oT rfl) (oS (oT rfl) (oS (oT rfl) (oS (oT rfl) Opds.nil))))) rfl rfl (Lent.of rfl rfl (by exact ⟨⟨rfl, rfl, rfl, trivial⟩, trivial⟩) rfl) rfl rfl rfl rfl rfl) ?_
   refine zc ?_
   refine nK ?_
   refine zb ?_
   refine za ?_
   refine rpZ 62 rfl (op_mul rfl (oT rfl) oC tI) ?_
   refine zd ?_
   refine zc ?_
   refine nK ?_
   refine Next.weakS [0] [] (by rfl) (wK hC) wG wHSI5a rfl (hK5)
  have h4 : R.length ≤ w := by have := of_decide_eq_false hb; omega
  rw [bsL_small (w := w) h4]
  rw [bsL_small (w := 2 * w) (by omega)] at hK5
  refine nK ?_
  refine zb ?_
  refine za ?_
  refine rpZ 62 rfl (op_mul rfl (oT rfl) oC tI) ?_
  refine zd ?_
  refine zc ?_
  refine nK ?_
  refine Next.weakS [0] [] (by rfl) (wK hC) wG wHSI5a rfl (hK5)
 have hwn : N ≤ w := by have := of_decide_eq_false hb; omega
 rw [bsL_small (by omega)]
 refine nK ?_
 refine Next.weak [0] [] (by rfl) (keepsN hC _ rfl) (G' := []) (H' := [(0, OF (srtS (ltS c) l))]) trivial wR wN ?_
 exact n_out0 rfl
theorem sortS_c {dn : Nat} (gf : Nat) [FnB Tryz.prog gf] (caps : List FV) (c : (Fin dn) → (Fin dn) → Int) (o : SWk (ltS c)) (hp : ∀ x y, Pure Tryz.prog gf ([If .i64 (x.val : Int), If .i64 (y.val : Int)] ++ caps) (If .i64 (c x y))) (l : List (Fin dn)) (hn : l.length ≤ 2000000) :
  Meets Tryz.prog 62 [.sl 0 1 0 l.length, (PV.fz (.clo gf caps))] 1 [(0, OF l)] (.fz (.tup [])) [(0, OF (srtS (ltS c) l))] 1 := by
 have hr := stable_c gf caps c o hp l hn
 refine Meets.intro Tryz.func62 rfl (Nat.le_of_ble_eq_true rfl) fun C hC => ?_
 simp only [List.map, argEnv, Nat.reduceAdd]
 refine nK ?_
 refine zb ?_
 refine za ?_
 refine za ?_
 refine zbi ?_
 refine za ?_
 refine Run.eff (dd := some 8) rfl rfl (op_call (n := 1) (n' := 1) [0] (fun _ => hr) rfl (Opd.func _) (oS (oT rfl) (oS (oT rfl) (oS (oT rfl) Opds.nil))) rfl rfl (Lent.of rfl rfl (by exact ⟨⟨rfl, rfl, rfl, trivial⟩, trivial⟩) rfl) rfl rfl rfl rfl rfl) ?_
 refine zc ?_
 refine nK ?_
 refine Next.weak [0] [] (by rfl) (keepsN hC _ rfl) (G' := []) (H' := [(0, OF (srtS (ltS c) l))]) trivial wR wN ?_
 exact n_out0 rfl
end Go.Proofs.YtcillieggklaaaaGreat
namespace Go.Pl
open Go Go.RT
set_option linter.all false
section
variable {α : Type} {lt : α → α → Bool}
theorem mrg_perm : ∀ (k : Nat) (A B : List α), A.length + B.length ≤ k → (mrg lt A B).Perm (A ++ B)
  | k, [], B, _ => by rw [mrg_nil_left]; exact List.Perm.refl _
  | k, a :: A, [], _ => by rw [mrg_nil, List.append_nil]
  | 0, a :: A, b :: B, h => by simp at h
  | k + 1, a :: A, b :: B, h => by
    rw [mrg]
    split
    · refine (List.Perm.cons _ (mrg_perm k (a :: A) B (by simp at h ⊢; omega))).trans ?_
      exact (List.perm_middle (l₁ := a :: A) (l₂ := B)).symm
    · exact List.Perm.cons _ (mrg_perm k A (b :: B) (by simp at h ⊢; omega))
theorem srtS_perm : ∀ l : List α, (srtS lt l).Perm l := rev_ind (List.Perm.refl _) fun l y ih => by
  rw [srtS_snoc]
  exact (mrg_perm _ _ _ (Nat.le_refl _)).trans (List.Perm.append_right _ ih)
end
theorem fin_val (n : Nat) : (List.finRange n).map (fun x : Fin n => x.val) = List.range n := by
  apply List.ext_getElem (by simp)
  intro i h1 h2
  simp
abbrev ordF (r : Int) (d : List Int) (n : Nat) (x y : Fin n) : Int := ordT r d x.val y.val
theorem sw_ordF (r : Int) (d : List Int) (n : Nat) : SWk (ltS (ordF r d n)) := by
  have e : ∀ x y : Fin n, ltS (ordF r d n) x y = decide (gt0 d x < gt0 d y ∨ gt0 d x = gt0 d y ∧ min ((y.val : Nat) : Int) r < min ((x.val : Nat) : Int) r) := fun x y => by
    unfold ltS; rw [Bool.eq_iff_iff]; simp only [decide_eq_true_eq]; exact ordT_neg r d x.val y.val
  refine ⟨fun x y h => ?_, fun x y z h1 h2 => ?_⟩
  · rw [e] at *; simp only [decide_eq_true_eq, decide_eq_false_iff_not] at *; omega
  · rw [e] at *; simp only [decide_eq_false_iff_not] at *; omega
def topF (r : Int) (n : Nat) (d : List Int) : List (Fin n) := srtS (ltS (ordF r d n)) (List.finRange n)
def topL (r : Int) (n : Nat) (d : List Int) : List Nat := (topF r n d).map fun x => x.val
theorem topL_ok (r : Int) (n : Nat) (d : List Int) : TopL r n d (topL r n d) := by
  have hp : (topL r n d).Perm (List.range n) := by
    have := (srtS_perm (lt := ltS (ordF r d n)) (List.finRange n)).map (fun x : Fin n => x.val)
    rwa [fin_val] at this
  refine ⟨fun v => by rw [hp.mem_iff, List.mem_range], hp.nodup_iff.2 List.nodup_range, ?_⟩
  unfold topL
  rw [List.pairwise_map]
  exact (srtS_srt (sw_ordF r d n) (List.finRange n)).imp fun {x y} h => by
    have : decide (ordF r d n y x < 0) = false := h
    exact of_decide_eq_false this
theorem topL_len (r : Int) (n : Nat) (d : List Int) : (topL r n d).length = n := by simp [topL, topF, srtS_len]
theorem topL_lt {r : Int} {n : Nat} {d : List Int} {v : Nat} (h : v ∈ topL r n d) : v < n := ((topL_ok r n d).mem v).1 h
/- the list 0 .. n-1, as it is filled -/
def fillL (n i : Nat) : List Int := (List.range n).map fun j => if j < i then (j : Int) else 0
theorem fillL_0 (n : Nat) : List.replicate n (0 : Int) = fillL n 0 := by rw [rng_const]; exact rng_same n _ _ fun w _ => by simp
theorem fillL_n (n : Nat) : fillL n n = (List.finRange n).map fun x => (x.val : Int) := by
  have : (List.finRange n).map (fun x : Fin n => (x.val : Int)) = ((List.finRange n).map fun x => x.val).map fun j : Nat => (j : Int) := by rw [List.map_map]; rfl
  rw [this, fin_val]
  exact rng_same n _ _ fun w hw => by simp [hw]
theorem fillL_set (n i : Nat) : (fillL n i).set i (i : Int) = fillL n (i + 1) := rng_set n _ _ i _ (by simp) (fun w hw => by
  by_cases h : w < i
  · rw [if_pos h, if_pos (by omega)]
  · rw [if_neg h, if_neg (by omega)])
theorem fillL_len (n i : Nat) : (fillL n i).length = n := by simp [fillL]
/- rows of the tree in the making -/
theorem rawU_ok {r : Int} {a n v : Nat} {ll : List (List Int)} (h : LLok n ll) (hv : v < n) {u : Int} (hu : 0 ≤ u ∧ u < n) : (rawU r a v ll u).length ≤ n + 1 ∧ ∀ x ∈ rawU r a v ll u, 0 ≤ x ∧ x < n := by
  have hr := h.row u.toNat (by omega)
  have hl := hr.len
  unfold rawU
  generalize rowAt' ll u.toNat = q at *
  refine ⟨by rw [List.length_append, List.length_map]; split <;> simp only [List.length_cons, List.length_nil] <;> omega, fun x hx => ?_⟩
  rcases List.mem_append.1 hx with h1 | h1
  · split at h1
    · have : x = (v : Int) := by simpa using h1
      omega
    · cases h1
  · obtain ⟨y, hy, rfl⟩ := List.mem_map.1 h1
    have := hr.2 y hy
    unfold capV; split <;> omega
theorem rawH_ok {r : Int} {a n v : Nat} {ll : List (List Int)} (h : LLok n ll) (hv : v < n) : ∀ (up : List Int), (∀ u ∈ up, 0 ≤ u ∧ u < n) → (rawH r a v ll up).length ≤ up.length * (n + 1) ∧ ∀ x ∈ rawH r a v ll up, 0 ≤ x ∧ x < n
  | [], _ => ⟨by simp [rawH], fun x hx => by simp [rawH] at hx⟩
  | u :: up, hu => by
    obtain ⟨i1, i2⟩ := rawH_ok (r := r) (a := a) h hv up fun w hw => hu w (by simp [hw])
    obtain ⟨j1, j2⟩ := rawU_ok (r := r) (a := a) h hv (hu u (by simp))
    have e : rawH r a v ll (u :: up) = rawU r a v ll u ++ rawH r a v ll up := by simp [rawH]
    rw [e]
    refine ⟨by rw [List.length_append, List.length_cons, Nat.add_mul]; omega, fun x hx => ?_⟩
    rcases List.mem_append.1 hx with h1 | h1
    · exact j2 x h1
    · exact i2 x h1
theorem rawH_succ (r : Int) (a v : Nat) (ll : List (List Int)) {up : List Int} {j : Nat} (h : j < up.length) : rawH r a v ll (up.take (j + 1)) = rawH r a v ll (up.take j) ++ rawU r a v ll up[j] := by
  unfold rawH
  rw [List.take_succ_eq_append_getElem h, List.flatMap_append]
  simp
theorem LLok.hopN {r : Int} {a n v : Nat} {par ll : List (List Int)} (h : LLok n ll) (hv : v < n) (hu : UpOk n par) : LLok n (Go.Pl.hopN r a par ll v) := by
  have hr := (hu.row v hv).2
  obtain ⟨_, h2⟩ := rawH_ok (r := r) (a := a) h hv (rowAt' par v) fun u hu' => by have := hr u hu'; omega
  obtain ⟨c1, c2⟩ := comp_asc (srtI_sorted (rawH r a v ll (rowAt' par v)))
  refine ⟨by rw [hopN_len, h.len], fun w hw => ?_⟩
  unfold Go.Pl.hopN rowAt'
  rw [getD_set _ _ _ _ _ (by rw [h.len]; exact hv)]
  by_cases e : v = w
  · rw [if_pos e]
    exact ⟨c1, fun x hx => h2 x ((srtI_perm _).mem_iff.1 ((c2 x).1 hx))⟩
  · rw [if_neg e]; exact h.row w hw
theorem LLok.hopT {r : Int} {a n : Nat} {par : List (List Int)} (hu : UpOk n par) : ∀ (l : List Nat) {ll : List (List Int)}, LLok n ll → (∀ x ∈ l, x < n) → LLok n (l.foldl (Go.Pl.hopN r a par) ll)
  | [], _, h, _ => h
  | x :: l, _, h, hx => LLok.hopT hu l (h.hopN (hx x (by simp)) hu) fun y hy => hx y (by simp [hy])
theorem nil_rows {H : Hp} {F : List Nat} : ∀ n : Nat, AsRs H F ((List.replicate n [FV.lit (.slice none 0 0)]).map fun r => r.map PV.fz) ((List.replicate n ([] : List Int)).map encL)
  | 0 => .nil
  | n + 1 => .cons _ _ _ _ (.cons _ _ _ _ (.nil 1) .nil) (nil_rows n)
end Go.Pl
