/- A part of the proof: RT27, RT28, RT29, RT30, RT31, RT32, TabV, G0, V1, GP1, V2, V3, GP2, SRT, SRI, GP3. -/
import Derived.Test.YtdbdajokdipmlaaZB
import Derived.Scope
import Derived.Maps.Keyed
import Derived.Carry
import Derived.Test.YtdbdajokdipmlaaChecked
import Derived.Eval
import Derived.Shelf.SlSortCmp.NoneTotal
import Derived.Shelf.Sort.Plain
import Derived.Shelf.Slices.In.SortNone
set_option linter.all false
/- Nil checks. Slices that one cell alone leads to: taken out as an object of its own, put back, frozen. -/
namespace Go.RT
open Go
set_option linter.all false
section
variable {P : Program} {o : Oper} {g : Bool} {G : Env} {x y : Operand} {t t' : TypeId} {H : Hp} {nx : Nat}
theorem op_nilck_ptr {id sz row col : Nat} (ho : o.op = .nilCheck x) (hx : Opd G g x (.ptr id sz row col)) : OpP P o g G (.ptr id sz row col) :=
  .of fun S m a w hg ha => by
    have h1 := hx.rep hg (by simp [ho, Op.operands]) ha
    generalize hv : a.eval x = v at h1
    refine ⟨v, ?_, h1⟩
    cases h1 with
    | ptr => simp [execOp, ho, hv]
theorem op_nilck_fz {fs : List FV} (ho : o.op = .nilCheck x) (hx : Opd G g x (.fz (.cellp fs))) : OpP P o g G (.fz (.cellp fs)) :=
  .of fun S m a w hg ha => by
    have h1 := hx.rep hg (by simp [ho, Op.operands]) ha
    generalize hv : a.eval x = v at h1
    refine ⟨v, ?_, h1⟩
    cases h1 with
    | fz _ _ h => cases h with
      | cellp => simp [execOp, ho, hv]
theorem op_nilck_clo {f : FuncId} {ps qs : List PV} (ho : o.op = .nilCheck x) (hx : Opd G g x (.clo f ps qs)) : OpP P o g G (.clo f ps qs) :=
  .of fun S m a w hg ha => by
    have h1 := hx.rep hg (by simp [ho, Op.operands]) ha
    generalize hv : a.eval x = v at h1
    refine ⟨v, ?_, h1⟩
    cases h1 with
    | clo => simp [execOp, ho, hv]
theorem op_nilck_fclo {f : FuncId} {qs : List FV} (ho : o.op = .nilCheck x) (hx : Opd G g x (.fz (.clo f qs))) : OpP P o g G (.fz (.clo f qs)) :=
  .of fun S m a w hg ha => by
    have h1 := hx.rep hg (by simp [ho, Op.operands]) ha
    generalize hv : a.eval x = v at h1
    refine ⟨v, ?_, h1⟩
    cases h1 with
    | fz _ _ h => cases h with
      | clo => simp [execOp, ho, hv]
theorem RowsRep.setCell {α : Type} {R : Value → α → Prop} {c : Array Value} {s : Nat} {rows : List (List α)} (h : RowsRep R c s rows) {i j : Nat} {r : List α} {p q : α} (hrow : rows[i]? = some r) (hcol : r[j]? = some p) (hq : ∀ u, c[i * s + j]? = some u → R u p → R u q) :
    RowsRep R c s (rows.set i (r.set j q)) := by
  refine ⟨by simpa using h.1, fun r' hr' => ?_, fun i2 j2 r2 p2 hi hj => ?_⟩
  · rcases List.mem_or_eq_of_mem_set hr' with h1 | rfl
    · exact h.2.1 r' h1
    · simpa using h.2.1 r (List.mem_of_getElem? hrow)
  · rw [List.getElem?_set] at hi
    by_cases h1 : i = i2
    · subst h1
      have hlt : i < rows.length := (List.getElem?_eq_some_iff.1 hrow).1
      simp only [if_true, hlt] at hi
      cases hi
      rw [List.getElem?_set] at hj
      by_cases h2 : j = j2
      · subst h2
        have hlt2 : j < r.length := (List.getElem?_eq_some_iff.1 hcol).1
        simp only [if_true, hlt2] at hj
        cases hj
        obtain ⟨u, hu, ho1, hp⟩ := h.2.2 i j r _ hrow hcol
        exact ⟨u, hu, ho1, hq u hu hp⟩
      · rw [if_neg h2] at hj
        exact h.2.2 i j2 r p2 hrow hj
    · rw [if_neg h1] at hi
      exact h.2.2 i2 j2 r2 p2 hi hj
/-- which cells own, behind a cell set anew -/
theorem own_set_other {id s i j : Nat} {rows : List (List PV)} {r : List PV} {q : PV} (hrow : rows[i]? = some r) (hl : hlook H id = some (.refs s rows)) {H1 : Hp} {id2 s2 i2 j2 isz : Nat} {irows : List (List FV)} (hO : OwnE ((id, some (.refs s (rows.set i (r.set j q)))) :: H1) id2 s2 i2 j2 isz irows)
    (hh : ∀ o, id ≠ id2 → hlook H1 id2 = some o → (∃ rows r, o = .refs s2 rows ∧ rows[i2]? = some r ∧ r[j2]? = some (.own isz irows)) → hlook H id2 = some o) : (id2 = id ∧ i2 = i ∧ j2 = j ∧ q = .own isz irows ∧ s2 = s) ∨ (OwnE H id2 s2 i2 j2 isz irows ∧ ¬ (id2 = id ∧ i2 = i ∧ j2 = j)) := by
  obtain ⟨rows2, r2, h1, h2, h3⟩ := hO
  rw [hlook_cons] at h1
  by_cases he : id = id2
  · rw [if_pos he] at h1
    subst he
    cases h1
    rw [List.getElem?_set] at h2
    by_cases hi : i = i2
    · subst hi
      rw [if_pos rfl, if_pos (List.getElem?_eq_some_iff.1 hrow).1] at h2
      cases h2
      rw [List.getElem?_set] at h3
      by_cases hj : j = j2
      · subst hj
        rw [if_pos rfl] at h3
        split at h3
        · exact .inl ⟨rfl, rfl, rfl, Option.some.inj h3, rfl⟩
        · cases h3
      · rw [if_neg hj] at h3
        exact .inr ⟨⟨rows, r, hl, hrow, h3⟩, fun ⟨_, _, e⟩ => hj e.symm⟩
    · rw [if_neg hi] at h2
      exact .inr ⟨⟨rows, r2, hl, h2, h3⟩, fun ⟨_, e, _⟩ => hi e.symm⟩
  · rw [if_neg he] at h1
    exact .inr ⟨⟨rows2, r2, hh _ he h1 ⟨rows2, r2, rfl, h2, h3⟩, h2, h3⟩, fun ⟨e, _, _⟩ => he e.symm⟩
/-- a slice that a cell owns, taken out -/
theorem Next.take {C : Cx} {N : Nat} {K : Act → World → Prop} (id i j : Nat) {s isz : Nat} {rows rows' : List (List PV)} {r : List PV} {irows : List (List FV)} (hl : hlook H id = some (.refs s rows)) (hrow : rows[i]? = some r) (hcol : r[j]? = some (.own isz irows)) (hr : rows.set i (r.set j (.sl nx isz 0 irows.length)) = rows')
    (h : Next C N G ((id, some (.refs s rows')) :: (nx, some (.flat isz irows)) :: H) (nx + 1) K) : Next C N G H nx K := by
  subst hr
  intro ac w hR
  obtain ⟨S, m, hm, hsl⟩ := hR.mem
  obtain ⟨ib, hn⟩ := hm.nst
  have hO : OwnE H id s i j isz irows := ⟨rows, r, hl, hrow, hcol⟩
  obtain ⟨b, c, e, u, k1, k2, k3, k4⟩ := hn.at_ _ _ _ _ _ _ hO
  have hids : ∀ i y, m i = some y → i ≠ nx := fun i y hi => by have := hm.lt hi; omega
  have hle : Le S m w S (setM m nx (ib id i j)) w := ⟨fun _ h => h, fun _ _ => rfl, fun i y hi => by rw [setM_other (hids i y hi)]; exact hi, fun _ _ h => h⟩
  have hidne : id ≠ nx := hids _ _ k1
  have hHne : ∀ id2 o2, hlook H id2 = some o2 → id2 ≠ nx := fun id2 o2 h2 => by obtain ⟨y, hy⟩ := (hm.objs id2 _ h2).known; exact hids _ _ hy
  have ex : ∀ id2 o2, hlook ((id, some (Ob.refs s (rows.set i (r.set j (.sl nx isz 0 irows.length))))) :: (nx, some (.flat isz irows)) :: H) id2 = some o2 → (id2 = id ∧ o2 = .refs s (rows.set i (r.set j (.sl nx isz 0 irows.length)))) ∨ (id2 = nx ∧ o2 = .flat isz irows) ∨ (id2 ≠ id ∧ id2 ≠ nx ∧ hlook H id2 = some o2) := fun id2 o2 h2 => by
    rw [hlook_cons] at h2
    by_cases h3 : id = id2
    · rw [if_pos h3] at h2; cases h2; exact .inl ⟨h3.symm, rfl⟩
    · rw [if_neg h3, hlook_cons] at h2
      by_cases h4 : nx = id2
      · rw [if_pos h4] at h2; cases h2; exact .inr (.inl ⟨h4.symm, rfl⟩)
      · rw [if_neg h4] at h2; exact .inr (.inr ⟨fun e => h3 e.symm, fun e => h4 e.symm, h2⟩)
  have hrep : Rep w S (setM m nx (ib id i j)) u (.sl nx isz 0 irows.length) := by
    rcases k4 with ⟨q1, q2, q3⟩ | ⟨b', c', e', cap, q1, q2, q3, q4, q5, q6, q7, q8, q9, q10⟩
    · subst q2; subst q3; exact .sl0 _ _ (by rw [setM_self, q1])
    · subst q2
      have := Rep.sl (w := w) (S := S) (m := setM m nx (ib id i j)) nx isz 0 irows.length b' cap (by rw [setM_self, q1]) ⟨c', e', _, q5, by rw [q6, Nat.zero_add]⟩ q3 (by omega)
      simpa using this
  have hxb : ∀ b', ib id i j = some b' → ¬ S b' ∧ b' < w.heap.size ∧ (C.w0.heap.size ≤ b' ∨ C.own0 b') := fun b' hb => by
    rcases k4 with ⟨q1, _⟩ | ⟨b2, c', e', cap, q1, q2, q3, q4, q5, q6, q7, q8, q9, q10⟩
    · rw [hb] at q1; cases q1
    · rw [hb] at q1; cases q1; exact ⟨q8, q9, q10⟩
  refine h ac w ⟨hR.defers, hR.size, S, setM m nx (ib id i j), hm.step hle ⟨rfl, Nat.le_refl _⟩ rfl rfl (fun _ _ => rfl) (Nat.le_refl _) (fun _ _ _ => rfl) (fun _ h => .inl h) (fun id2 o2 h2 => ?_) (fun id2 o2 b2 h2 hb2 => ?_) (fun i1 i2 o1 o2 b2 h1 h2 h3 h4 => ?_) hm.stab (fun i2 hi2 => ?_) ?_, fun t q hq => (hsl t q hq).mono hle⟩
  · rcases ex id2 o2 h2 with ⟨rfl, rfl⟩ | ⟨rfl, rfl⟩ | ⟨_, _, h3⟩
    · rcases hm.objs _ _ hl with ⟨q1, q2⟩ | ⟨b2, c2, e2, q1, q2, q3⟩
      · subst q2; simp at hrow
      · rw [k1] at q1; cases q1
        rw [k2] at q2; cases q2
        exact .inr ⟨_, _, _, hle.ids _ _ k1, k2, (q3.mono fun v p h => h.mono hle).setCell hrow hcol (fun u2 hu2 _ => by rw [k3] at hu2; cases hu2; exact hrep)⟩
    · rcases k4 with ⟨q1, q2, q3⟩ | ⟨b', c', e', cap, q1, q2, q3, q4, q5, q6, q7, q8, q9, q10⟩
      · exact .inl ⟨by rw [setM_self, q1], q3⟩
      · exact .inr ⟨b', c', e', by rw [setM_self, q1], q5, q7⟩
    · exact (hm.objs _ _ h3).mono hle (fun _ _ => rfl)
  · rcases ex id2 o2 h2 with ⟨rfl, rfl⟩ | ⟨rfl, rfl⟩ | ⟨_, hne, h3⟩
    · rw [setM_other hidne] at hb2; exact hm.blk _ _ b2 hl hb2
    · rw [setM_self] at hb2; exact hxb b2 (by simpa using hb2)
    · rw [setM_other hne] at hb2; exact hm.blk _ _ b2 h3 hb2
  · have old : ∀ i1 o1, hlook ((id, some (Ob.refs s (rows.set i (r.set j (.sl nx isz 0 irows.length))))) :: (nx, some (.flat isz irows)) :: H) i1 = some o1 → i1 ≠ nx → ∃ o3, hlook H i1 = some o3 := fun i1 o1 h1 hne => by
      rcases ex i1 o1 h1 with ⟨rfl, _⟩ | ⟨rfl, _⟩ | ⟨_, _, h3⟩
      · exact ⟨_, hl⟩
      · exact absurd rfl hne
      · exact ⟨_, h3⟩
    by_cases a1 : i1 = nx <;> by_cases a2 : i2 = nx
    · rw [a1, a2]
    · subst a1
      obtain ⟨o3, ho3⟩ := old i2 o2 h2 a2
      rw [setM_self] at h3; rw [setM_other a2] at h4
      exact absurd h4 (hn.apart _ _ _ _ _ _ b2 hO (by simpa using h3) _ _ ho3)
    · subst a2
      obtain ⟨o3, ho3⟩ := old i1 o1 h1 a1
      rw [setM_self] at h4; rw [setM_other a1] at h3
      exact absurd h3 (hn.apart _ _ _ _ _ _ b2 hO (by simpa using h4) _ _ ho3)
    · obtain ⟨o3, ho3⟩ := old i1 o1 h1 a1
      obtain ⟨o4, ho4⟩ := old i2 o2 h2 a2
      rw [setM_other a1] at h3; rw [setM_other a2] at h4
      exact hm.inj _ _ _ _ b2 ho3 ho4 h3 h4
  · rw [setM_other (by omega)]; exact hm.fresh i2 (by omega)
  · have hOE : ∀ id2 s2 i2 j2 isz2 irows2, OwnE ((id, some (Ob.refs s (rows.set i (r.set j (.sl nx isz 0 irows.length))))) :: (nx, some (.flat isz irows)) :: H) id2 s2 i2 j2 isz2 irows2 → OwnE H id2 s2 i2 j2 isz2 irows2 ∧ ¬ (id2 = id ∧ i2 = i ∧ j2 = j) := fun id2 s2 i2 j2 isz2 irows2 h2 => by
      rcases own_set_other (H := H) hrow hl h2 (fun o hne h3 ⟨rows2, r2, ho, _, _⟩ => by
        rw [hlook_cons] at h3
        by_cases h4 : nx = id2
        · rw [if_pos h4] at h3; cases h3; cases ho
        · rwa [if_neg h4] at h3) with ⟨_, _, _, q, _⟩ | q
      · cases q
      · exact q
    refine ⟨ib, hn.keep (fun i => i) (fun id2 s2 i2 j2 isz2 irows2 h2 => ⟨(hOE _ _ _ _ _ _ h2).1, ?_⟩) (fun _ _ _ _ _ _ _ _ _ _ _ _ _ _ h => h) (fun _ h => h) (fun _ _ => rfl) (fun _ _ _ _ _ _ _ c e _ _ _ k2 k3 => ⟨c, e, k2, k3⟩) (fun id2 s2 i2 j2 isz2 irows2 b' h2 hb g1 g2 g3 g4 => ⟨rfl, g1, g2, g3, fun id3 o3 h3 hc => ?_⟩)⟩
    · obtain ⟨rows3, r3, q1, _⟩ := (hOE _ _ _ _ _ _ h2).1
      rw [setM_other (hHne _ _ q1)]
    · rcases ex id3 o3 h3 with ⟨rfl, rfl⟩ | ⟨rfl, rfl⟩ | ⟨_, hne, h5⟩
      · rw [setM_other hidne] at hc; exact g4 _ _ hl hc
      · rw [setM_self] at hc
        exact (hOE _ _ _ _ _ _ h2).2 (hn.inj _ _ _ _ _ _ _ _ _ _ _ _ b' (hOE _ _ _ _ _ _ h2).1 hO hb (by simpa using hc))
      · rw [setM_other hne] at hc; exact g4 _ _ h5 hc
/-- a slice put back into the cell that leads to it: the cell owns it from then on -/
theorem Next.untake {C : Cx} {N : Nat} {K : Act → World → Prop} (id i j : Nat) {s a isz n : Nat} {rows rows' : List (List PV)} {r : List PV} {irows : List (List FV)} (hl : hlook H id = some (.refs s rows)) (hrow : rows[i]? = some r) (hcol : r[j]? = some (.sl a isz 0 n)) (ha : hlook H a = some (.flat isz irows)) (hn : irows.length = n)
    (hr : rows.set i (r.set j (.own isz irows)) = rows') (h : Next C N G ((id, some (.refs s rows')) :: (a, none) :: H) nx K) : Next C N G H nx K := by
  subst hr; subst hn
  intro ac w hR
  obtain ⟨S, m, hm, hsl⟩ := hR.mem
  obtain ⟨ib, hn⟩ := hm.nst
  have hida : id ≠ a := fun e => by subst e; rw [hl] at ha; cases ha
  rcases hm.objs _ _ hl with ⟨q1, q2⟩ | ⟨b, c, e, k1, k2, k3⟩
  · subst q2; simp at hrow
  obtain ⟨u, hu, hu1, hrep⟩ := k3.2.2 i j r _ hrow hcol
  have ex : ∀ id2 o2, hlook ((id, some (Ob.refs s (rows.set i (r.set j (.own isz irows))))) :: (a, none) :: H) id2 = some o2 → (id2 = id ∧ o2 = .refs s (rows.set i (r.set j (.own isz irows)))) ∨ (id2 ≠ id ∧ id2 ≠ a ∧ hlook H id2 = some o2) := fun id2 o2 h2 => by
    rw [hlook_cons] at h2
    by_cases h3 : id = id2
    · rw [if_pos h3] at h2; cases h2; exact .inl ⟨h3.symm, rfl⟩
    · rw [if_neg h3, hlook_cons] at h2
      by_cases h4 : a = id2
      · rw [if_pos h4] at h2; cases h2
      · rw [if_neg h4] at h2; exact .inr ⟨fun e => h3 e.symm, fun e => h4 e.symm, h2⟩
  have exo : ∀ id2 o2, hlook ((id, some (Ob.refs s (rows.set i (r.set j (.own isz irows))))) :: (a, none) :: H) id2 = some o2 → id2 ≠ a ∧ ∃ o3, hlook H id2 = some o3 := fun id2 o2 h2 => by
    rcases ex id2 o2 h2 with ⟨rfl, _⟩ | ⟨_, h3, h4⟩
    · exact ⟨hida, _, hl⟩
    · exact ⟨h3, _, h4⟩
  have hOE : ∀ id2 s2 i2 j2 isz2 irows2, OwnE ((id, some (Ob.refs s (rows.set i (r.set j (.own isz irows))))) :: (a, none) :: H) id2 s2 i2 j2 isz2 irows2 → (id2 = id ∧ i2 = i ∧ j2 = j ∧ isz2 = isz ∧ irows2 = irows ∧ s2 = s) ∨ (OwnE H id2 s2 i2 j2 isz2 irows2 ∧ ¬ (id2 = id ∧ i2 = i ∧ j2 = j)) := fun id2 s2 i2 j2 isz2 irows2 h2 => by
    rcases own_set_other (H := H) hrow hl h2 (fun o hne h3 _ => by
      rw [hlook_cons] at h3
      by_cases h4 : a = id2
      · rw [if_pos h4] at h3; cases h3
      · rwa [if_neg h4] at h3) with ⟨q1, q2, q3, q4, q5⟩ | q
    · cases q4; exact .inl ⟨q1, q2, q3, rfl, rfl, q5⟩
    · exact .inr q
  obtain ⟨x, hx⟩ := (hm.objs _ _ ha).known
  have hin : InAt C S w isz irows u x := by
    generalize hnn : irows.length = n at hrep
    cases hrep with
    | sl0 _ _ q => exact .inl ⟨by rw [q] at hx; cases hx; rfl, rfl, List.eq_nil_of_length_eq_zero hnn⟩
    | sl _ _ _ _ b' cap q hrm hc hmx =>
      rw [q] at hx; cases hx
      obtain ⟨p1, p2, p3⟩ := hm.blk _ _ b' ha q
      rcases hm.objs _ _ ha with ⟨z1, _⟩ | ⟨b2, c2, e2, z1, z2, z3⟩
      · rw [q] at z1; cases z1
      · rw [q] at z1; cases z1
        obtain ⟨c3, e3, fr, y1, y2⟩ := hrm
        rw [z2] at y1; cases y1
        refine .inr ⟨b', c2, e2, cap, rfl, ?_, by omega, by omega, z2, by rw [y2, Nat.zero_add], z3, p1, p2, p3⟩
        rw [hnn]; simp
  let ibn : Nat → Nat → Nat → Option Nat := fun id2 i2 j2 => if id2 = id ∧ i2 = i ∧ j2 = j then x else ib id2 i2 j2
  have ibs : ibn id i j = x := by simp [ibn]
  have ibo : ∀ id2 i2 j2, ¬ (id2 = id ∧ i2 = i ∧ j2 = j) → ibn id2 i2 j2 = ib id2 i2 j2 := fun id2 i2 j2 h => by simp only [ibn, if_neg h]
  refine h ac w ⟨hR.defers, hR.size, S, m, hm.step (Le.refl _ _ _) ⟨rfl, Nat.le_refl _⟩ rfl rfl (fun _ _ => rfl) (Nat.le_refl _) (fun _ _ _ => rfl) (fun _ h => .inl h) (fun id2 o2 h2 => ?_) (fun id2 o2 b2 h2 hb2 => ?_) (fun i1 i2 o1 o2 b2 h1 h2 h3 h4 => ?_) hm.stab hm.fresh ⟨ibn, ?_⟩, hsl⟩
  · rcases ex id2 o2 h2 with ⟨rfl, rfl⟩ | ⟨_, _, h3⟩
    · exact .inr ⟨b, c, e, k1, k2, k3.setCell hrow hcol (fun u2 _ _ => .own u2 isz irows)⟩
    · exact hm.objs _ _ h3
  · obtain ⟨_, o3, h3⟩ := exo id2 o2 h2; exact hm.blk _ _ b2 h3 hb2
  · obtain ⟨_, o3, h5⟩ := exo i1 o1 h1
    obtain ⟨_, o4, h6⟩ := exo i2 o2 h2
    exact hm.inj _ _ _ _ b2 h5 h6 h3 h4
  · refine ⟨fun id2 s2 i2 j2 isz2 irows2 hO => ?_, fun id2 s2 i2 j2 isz2 irows2 b' hO hb id3 o3 h3 hc => ?_, fun id2 s2 i2 j2 isz2 irows2 id3 s3 i3 j3 isz3 irows3 b' hO hO2 h1 h2 => ?_⟩
    · rcases hOE _ _ _ _ _ _ hO with ⟨rfl, rfl, rfl, rfl, rfl, rfl⟩ | ⟨q1, q2⟩
      · rw [ibs]; exact ⟨b, c, e, u, k1, k2, hu, hin⟩
      · rw [ibo _ _ _ q2]; exact hn.at_ _ _ _ _ _ _ q1
    · obtain ⟨hne, o4, h4⟩ := exo id3 o3 h3
      rcases hOE _ _ _ _ _ _ hO with ⟨rfl, rfl, rfl, rfl, rfl, rfl⟩ | ⟨q1, q2⟩
      · rw [ibs] at hb; subst hb
        exact hne (hm.inj _ _ _ _ b' h4 ha hc hx)
      · rw [ibo _ _ _ q2] at hb; exact hn.apart _ _ _ _ _ _ b' q1 hb _ _ h4 hc
    · rcases hOE _ _ _ _ _ _ hO with ⟨rfl, rfl, rfl, rfl, rfl, rfl⟩ | ⟨q1, q2⟩ <;> rcases hOE _ _ _ _ _ _ hO2 with ⟨rfl, rfl, rfl, rfl, rfl, rfl⟩ | ⟨q3, q4⟩
      · exact ⟨rfl, rfl, rfl⟩
      · rw [ibs] at h1; subst h1; rw [ibo _ _ _ q4] at h2
        exact absurd hx (hn.apart _ _ _ _ _ _ b' q3 h2 _ _ ha)
      · rw [ibs] at h2; subst h2; rw [ibo _ _ _ q2] at h1
        exact absurd hx (hn.apart _ _ _ _ _ _ b' q1 h1 _ _ ha)
      · rw [ibo _ _ _ q2] at h1; rw [ibo _ _ _ q4] at h2
        exact hn.inj _ _ _ _ _ _ _ _ _ _ _ _ b' q1 q3 h1 h2
/-- what a cell owns, read as frozen -/
theorem InAt.frep {C : Cx} {S S' : Nat → Prop} {w : World} {isz : Nat} {irows : List (List FV)} {u : Value} {x : Option Nat} (h : InAt C S w isz irows u x) (hS : ∀ b, S b → S' b) (hx : ∀ b, x = some b → S' b) : FRep w S' u (.vals isz irows) := by
  rcases h with ⟨q1, q2, q3⟩ | ⟨b', c', e', cap, q1, q2, q3, q4, q5, q6, q7, q8, q9, q10⟩
  · subst q2; subst q3; exact .nil _ _ _
  · subst q2
    have hU : ∀ i j : Nat, ∃ u, ∀ r f, irows[i]? = some r → r[j]? = some f → c'[i * isz + j]? = some u ∧ u.oneCell' = true ∧ FRep w S u f := fun i j => by
      cases hi : irows[i]? with
      | none => exact ⟨undef, fun _ _ h => by cases h⟩
      | some r =>
        cases hj : r[j]? with
        | none => exact ⟨undef, fun r' f h1 h2 => by cases h1; rw [hj] at h2; cases h2⟩
        | some f =>
          obtain ⟨u, hu, ho1, hp⟩ := q7.2.2 i j r f hi hj
          exact ⟨u, fun r' f' h1 h2 => by cases h1; rw [hj] at h2; cases h2; exact ⟨hu, ho1, hp⟩⟩
    have hU' : ∃ U : Nat → Nat → Value, ∀ i j r f, irows[i]? = some r → r[j]? = some f → c'[i * isz + j]? = some (U i j) ∧ (U i j).oneCell' = true ∧ FRep w S (U i j) f :=
      ⟨fun i j => Classical.choose (hU i j), fun i j r f h1 h2 => Classical.choose_spec (hU i j) r f h1 h2⟩
    obtain ⟨U, hU⟩ := hU'
    refine .vals b' 0 cap isz irows U (hx b' q1) q3 q7.2.1 (fun i j r f h1 h2 => ⟨?_, (hU i j r f h1 h2).2.1⟩) (fun i j r f h1 h2 => (hU i j r f h1 h2).2.2.mono hS fun _ _ => rfl)
    have := (hU i j r f h1 h2).1
    simp only [World.cell?]
    rw [Nat.zero_add, ← this]
    simp only [*]
    simp
/-- the slices that an object's cells own, and they alone, taken as frozen -/
theorem Next.freezeOwn {C : Cx} {N : Nat} {K : Act → World → Prop} (id : Nat) {sz : Nat} {irs : List (List (List FV))} {rows : List (List PV)} (hl : hlook H id = some (.refs 1 rows)) (hrows : rows = irs.map fun r => [PV.own sz r])
    (h : Next C N G ((id, some (.flat 1 (irs.map fun r => [FV.vals sz r]))) :: H) nx K) : Next C N G H nx K := by
  subst hrows
  intro ac w hR
  obtain ⟨S, m, hm, hsl⟩ := hR.mem
  obtain ⟨ib, hn⟩ := hm.nst
  have hOi : ∀ i (r : List (List FV)), irs[i]? = some r → OwnE H id 1 i 0 sz r := fun i r hr => ⟨_, [.own sz r], hl, by rw [List.getElem?_map, hr]; rfl, rfl⟩
  let S' : Nat → Prop := fun b => S b ∨ ∃ i r, irs[i]? = some r ∧ ib id i 0 = some b
  have hS : ∀ b, S b → S' b := fun b h => .inl h
  have hinner : ∀ i r b, irs[i]? = some r → ib id i 0 = some b → ¬ S b ∧ b < w.heap.size ∧ (C.w0.heap.size ≤ b ∨ C.own0 b) := fun i r b hr hb => by
    obtain ⟨_, _, _, _, _, _, _, k4⟩ := hn.at_ _ _ _ _ _ _ (hOi i r hr)
    rcases k4 with ⟨k4, _⟩ | ⟨b2, c', e', cap, r1, r2, r3, r4, r5, r6, r7, r8, r9, r10⟩
    · rw [hb] at k4; cases k4
    · rw [hb] at r1; cases r1; exact ⟨r8, r9, r10⟩
  have hle : Le S m w S' m w := ⟨hS, fun _ _ => rfl, fun _ _ h => h, fun _ _ h => h⟩
  have ex : ∀ id2 o2, hlook ((id, some (Ob.flat 1 (irs.map fun r => [FV.vals sz r]))) :: H) id2 = some o2 → (id2 = id ∧ o2 = .flat 1 (irs.map fun r => [FV.vals sz r])) ∨ (id2 ≠ id ∧ hlook H id2 = some o2) := fun id2 o2 h2 => by
    rw [hlook_cons] at h2
    by_cases h3 : id = id2
    · rw [if_pos h3] at h2; cases h2; exact .inl ⟨h3.symm, rfl⟩
    · rw [if_neg h3] at h2; exact .inr ⟨fun e => h3 e.symm, h2⟩
  have exo : ∀ id2 o2, hlook ((id, some (Ob.flat 1 (irs.map fun r => [FV.vals sz r]))) :: H) id2 = some o2 → ∃ o3, hlook H id2 = some o3 := fun id2 o2 h2 => by
    rcases ex id2 o2 h2 with ⟨rfl, _⟩ | ⟨_, h4⟩
    · exact ⟨_, hl⟩
    · exact ⟨_, h4⟩
  have hOE : ∀ id2 s2 i2 j2 isz2 irows2, OwnE ((id, some (Ob.flat 1 (irs.map fun r => [FV.vals sz r]))) :: H) id2 s2 i2 j2 isz2 irows2 → id2 ≠ id ∧ OwnE H id2 s2 i2 j2 isz2 irows2 := fun id2 s2 i2 j2 isz2 irows2 ⟨rows2, r2, h1, h2, h3⟩ => by
    rcases ex id2 _ h1 with ⟨_, q⟩ | ⟨q1, q2⟩
    · cases q
    · exact ⟨q1, _, _, q2, h2, h3⟩
  refine h ac w ⟨hR.defers, hR.size, S', m, hm.step hle ⟨rfl, Nat.le_refl _⟩ rfl rfl (fun _ _ => rfl) (Nat.le_refl _) (fun _ _ _ => rfl) (fun b hb => ?_) (fun id2 o2 h2 => ?_) (fun id2 o2 b2 h2 hb2 => ?_) (fun i1 i2 o1 o2 b2 h1 h2 h3 h4 => ?_) (fun b hb => ?_) hm.fresh ?_, fun t q hq => (hsl t q hq).mono hle⟩
  · rcases hb with hb | ⟨i, r, hr, hb⟩
    · exact .inl hb
    · rcases (hinner i r b hr hb).2.2 with h | h
      · exact .inr (.inr h)
      · exact .inr (.inl h)
  · rcases ex id2 o2 h2 with ⟨rfl, rfl⟩ | ⟨_, h3⟩
    · rcases hm.objs _ _ hl with ⟨q1, q2⟩ | ⟨b, c, e, k1, k2, k3⟩
      · exact .inl ⟨q1, by cases irs <;> simp at q2 ⊢⟩
      · refine .inr ⟨b, c, e, k1, k2, by simpa using k3.1, fun r hr => ?_, fun i j r p hi hj => ?_⟩
        · obtain ⟨r0, _, rfl⟩ := List.mem_map.1 hr; rfl
        · rw [List.getElem?_map] at hi
          obtain ⟨r0, h0, rfl⟩ := Option.map_eq_some_iff.1 hi
          match j with
          | 0 =>
            simp at hj; subst hj
            obtain ⟨u, hu, hu1, _⟩ := k3.2.2 i 0 [.own sz r0] _ (by rw [List.getElem?_map, h0]; rfl) rfl
            obtain ⟨b2, c2, e2, u2, z1, z2, z3, z4⟩ := hn.at_ _ _ _ _ _ _ (hOi i r0 h0)
            rw [k1] at z1; cases z1
            rw [k2] at z2; cases z2
            rw [hu] at z3; cases z3
            exact ⟨u, hu, hu1, z4.frep hS fun b hb => .inr ⟨i, r0, h0, hb⟩⟩
          | j + 1 => simp at hj
    · exact (hm.objs _ _ h3).mono hle (fun _ _ => rfl)
  · obtain ⟨o3, h3⟩ := exo id2 o2 h2
    obtain ⟨q1, q2, q3⟩ := hm.blk _ _ b2 h3 hb2
    refine ⟨?_, q2, q3⟩
    rintro (h | ⟨i, r, hr, hb⟩)
    · exact q1 h
    · exact hn.apart _ _ _ _ _ _ b2 (hOi i r hr) hb _ _ h3 hb2
  · obtain ⟨o3, h5⟩ := exo i1 o1 h1
    obtain ⟨o4, h6⟩ := exo i2 o2 h2
    exact hm.inj _ _ _ _ b2 h5 h6 h3 h4
  · rcases hb with hb | ⟨i, r, hr, hb⟩
    · exact hm.stab b hb
    · exact (hinner i r b hr hb).2.1
  · refine ⟨ib, hn.keep (fun i => i) (fun _ _ _ _ _ _ h => ⟨(hOE _ _ _ _ _ _ h).2, rfl⟩) (fun _ _ _ _ _ _ _ _ _ _ _ _ _ _ h => h) hS (fun _ _ => rfl) (fun _ _ _ _ _ _ _ c e _ _ _ k2 k3 => ⟨c, e, k2, k3⟩) (fun id2 s2 i2 j2 isz2 irows2 b' h2 hb g1 g2 g3 g4 => ⟨rfl, ?_, g2, g3, fun id3 o3 h3 => ?_⟩)⟩
    · rintro (h | ⟨i, r, hr, hb2⟩)
      · exact g1 h
      · obtain ⟨q1, q2⟩ := hOE _ _ _ _ _ _ h2
        exact q1 (hn.inj _ _ _ _ _ _ _ _ _ _ _ _ b' q2 (hOi i r hr) hb hb2).1
    · obtain ⟨o4, h4⟩ := exo id3 o3 h3; exact g4 _ _ h4
/-- fresh cells that hold nil slices: each owns an empty one -/
theorem Next.toOwn {C : Cx} {N : Nat} {K : Act → World → Prop} (id sz n : Nat) (hl : hlook H id = some (.flat 1 (List.replicate n [.lit (.slice none 0 0)]))) (h : Next C N G ((id, some (.refs 1 (List.replicate n [.own sz []]))) :: H) nx K) : Next C N G H nx K := by
  intro ac w hR
  obtain ⟨S, m, hm, hsl⟩ := hR.mem
  obtain ⟨ib, hn⟩ := hm.nst
  have ex : ∀ id2 o2, hlook ((id, some (Ob.refs 1 (List.replicate n [.own sz []]))) :: H) id2 = some o2 → (id2 = id ∧ o2 = .refs 1 (List.replicate n [.own sz []])) ∨ (id2 ≠ id ∧ hlook H id2 = some o2) := fun id2 o2 h2 => by
    rw [hlook_cons] at h2
    by_cases h3 : id = id2
    · rw [if_pos h3] at h2; cases h2; exact .inl ⟨h3.symm, rfl⟩
    · rw [if_neg h3] at h2; exact .inr ⟨fun e => h3 e.symm, h2⟩
  have exo : ∀ id2 o2, hlook ((id, some (Ob.refs 1 (List.replicate n [.own sz []]))) :: H) id2 = some o2 → ∃ o3, hlook H id2 = some o3 := fun id2 o2 h2 => by
    rcases ex id2 o2 h2 with ⟨rfl, _⟩ | ⟨_, h4⟩
    · exact ⟨_, hl⟩
    · exact ⟨_, h4⟩
  have hOE : ∀ id2 s2 i2 j2 isz2 irows2, OwnE ((id, some (Ob.refs 1 (List.replicate n [.own sz []]))) :: H) id2 s2 i2 j2 isz2 irows2 → (id2 = id ∧ s2 = 1 ∧ i2 < n ∧ j2 = 0 ∧ isz2 = sz ∧ irows2 = []) ∨ (id2 ≠ id ∧ OwnE H id2 s2 i2 j2 isz2 irows2) := fun id2 s2 i2 j2 isz2 irows2 ⟨rows2, r2, h1, h2, h3⟩ => by
    rcases ex id2 _ h1 with ⟨q1, q⟩ | ⟨q1, q2⟩
    · cases q
      rw [List.getElem?_replicate] at h2
      split at h2
      · cases h2
        match j2, h3 with
        | 0, h3 => simp at h3; exact .inl ⟨q1, rfl, by assumption, rfl, h3.1.symm, h3.2⟩
        | j + 1, h3 => simp at h3
      · cases h2
    · exact .inr ⟨q1, _, _, q2, h2, h3⟩
  let ibn : Nat → Nat → Nat → Option Nat := fun id2 i2 j2 => if id2 = id then none else ib id2 i2 j2
  have ibs : ∀ i j, ibn id i j = none := fun i j => by simp [ibn]
  have ibo : ∀ id2 i2 j2, id2 ≠ id → ibn id2 i2 j2 = ib id2 i2 j2 := fun id2 i2 j2 h => by simp only [ibn, if_neg h]
  refine h ac w ⟨hR.defers, hR.size, S, m, hm.step (Le.refl _ _ _) ⟨rfl, Nat.le_refl _⟩ rfl rfl (fun _ _ => rfl) (Nat.le_refl _) (fun _ _ _ => rfl) (fun _ h => .inl h) (fun id2 o2 h2 => ?_) (fun id2 o2 b2 h2 hb2 => ?_) (fun i1 i2 o1 o2 b2 h1 h2 h3 h4 => ?_) hm.stab hm.fresh ⟨ibn, ?_⟩, hsl⟩
  · rcases ex id2 o2 h2 with ⟨rfl, rfl⟩ | ⟨_, h3⟩
    · rcases hm.objs _ _ hl with ⟨q1, q2⟩ | ⟨b, c, e, k1, k2, k3⟩
      · refine .inl ⟨q1, ?_⟩
        have : n = 0 := by simpa using congrArg List.length q2
        subst this; rfl
      · refine .inr ⟨b, c, e, k1, k2, by simpa using k3.1, fun r hr => ?_, fun i j r p hi hj => ?_⟩
        · rw [List.eq_of_mem_replicate hr]; rfl
        · rw [List.getElem?_replicate] at hi
          split at hi
          · rename_i hin
            cases hi
            match j, hj with
            | 0, hj =>
              simp at hj; subst hj
              obtain ⟨u, hu, hu1, _⟩ := k3.2.2 i 0 [.lit (.slice none 0 0)] _ (by rw [List.getElem?_replicate, if_pos hin]) rfl
              exact ⟨u, hu, hu1, .own u sz []⟩
            | j + 1, hj => simp at hj
          · cases hi
    · exact hm.objs _ _ h3
  · obtain ⟨o3, h3⟩ := exo id2 o2 h2; exact hm.blk _ _ b2 h3 hb2
  · obtain ⟨o3, h5⟩ := exo i1 o1 h1
    obtain ⟨o4, h6⟩ := exo i2 o2 h2
    exact hm.inj _ _ _ _ b2 h5 h6 h3 h4
  · refine ⟨fun id2 s2 i2 j2 isz2 irows2 hO => ?_, fun id2 s2 i2 j2 isz2 irows2 b' hO hb id3 o3 h3 hc => ?_, fun id2 s2 i2 j2 isz2 irows2 id3 s3 i3 j3 isz3 irows3 b' hO hO2 h1 h2 => ?_⟩
    · rcases hOE _ _ _ _ _ _ hO with ⟨rfl, rfl, hi, rfl, rfl, rfl⟩ | ⟨q1, q2⟩
      · rw [ibs]
        rcases hm.objs _ _ hl with ⟨q1, q2⟩ | ⟨b, c, e, k1, k2, k3⟩
        · have : n = 0 := by simpa using congrArg List.length q2
          omega
        · obtain ⟨u, hu, hu1, hr⟩ := k3.2.2 i2 0 [.lit (.slice none 0 0)] _ (by rw [List.getElem?_replicate, if_pos hi]) rfl
          cases hr
          exact ⟨b, c, e, _, k1, k2, hu, .inl ⟨rfl, rfl, rfl⟩⟩
      · rw [ibo _ _ _ q1]; exact hn.at_ _ _ _ _ _ _ q2
    · obtain ⟨o4, h4⟩ := exo id3 o3 h3
      rcases hOE _ _ _ _ _ _ hO with ⟨rfl, rfl, hi, rfl, rfl, rfl⟩ | ⟨q1, q2⟩
      · rw [ibs] at hb; cases hb
      · rw [ibo _ _ _ q1] at hb; exact hn.apart _ _ _ _ _ _ b' q2 hb _ _ h4 hc
    · rcases hOE _ _ _ _ _ _ hO with ⟨rfl, rfl, hi, rfl, rfl, rfl⟩ | ⟨q1, q2⟩
      · rw [ibs] at h1; cases h1
      · rcases hOE _ _ _ _ _ _ hO2 with ⟨rfl, rfl, hi, rfl, rfl, rfl⟩ | ⟨q3, q4⟩
        · rw [ibs] at h2; cases h2
        · rw [ibo _ _ _ q1] at h1; rw [ibo _ _ _ q3] at h2
          exact hn.inj _ _ _ _ _ _ _ _ _ _ _ _ b' q2 q4 h1 h2
theorem ext_app (A H : Hp) : Ext (A ++ H) H (A.map (·.1)) := by
  induction A with
  | nil => exact .refl _
  | cons a A ih => obtain ⟨i, o⟩ := a; exact .cons i o _ _ _ ih
theorem ext_call {L' L : List Nat} {Hout H : Hp} : Ext (callH L' Hout L H) H ((Hout.map (renE L') ++ L.map fun i => (i, (none : Option Ob))).map (·.1)) := ext_app _ _
end
end Go.RT
/- Labels and scopes; tests of pointers against nil; maps. -/
namespace Go.RT
open Go
set_option linter.all false
section
variable {P : Program} {C : Cx} {N : Nat} {G : Env} {H : Hp} {nx : Nat} {Q : Exit → Act → World → Prop}
theorem n_label {l : Nat} (h : Next C N G H nx (Q .normal)) : Next C N G H nx ((Code.label l).wp P Q) := fun a w hr => wp_label (h a w hr)
theorem n_scope {c : Code} (h : Next C N G H nx (c.wp P (Exit.noGoto Q))) : Next C N G H nx ((Code.scope c).wp P Q) := fun a w hr => wp_scope_straight (h a w hr)
theorem s_ng (h : Next C N G H nx (Q .normal)) : Next C N G H nx (Exit.noGoto Q .normal) := h
theorem s_ng_ret (h : Next C N G H nx (Q .ret)) : Next C N G H nx (Exit.noGoto Q .ret) := h
theorem s_ng_exit {id : Nat} (h : Next C N G H nx (Q (.exit id))) : Next C N G H nx (Exit.noGoto Q (.exit id)) := h
theorem nK2 {K K' : Act → World → Prop} (h : Next C N G H nx K')
    (hk : Next C N G H nx K' → Next C N G H nx K := by
      intro h
      (repeat (first | refine n_seq ?_ | refine n_block ?_ | refine n_skip ?_ | refine n_exit ?_ | refine n_ret ?_ | refine n_label ?_ | refine n_scope ?_ | refine s_then ?_ | refine s_then_ret ?_ | refine s_then_exit ?_ | refine s_blk _ ?_ | refine s_blk_ret ?_ | refine s_blk_hit ?_ | refine s_blk_miss rfl ?_ | refine s_ng ?_ | refine s_ng_ret ?_ | refine s_ng_exit ?_))
      exact h) : Next C N G H nx K := hk h
end
section
variable {P : Program} {o : Oper} {g : Bool} {G : Env} {x y : Operand} {t t' : TypeId} {H : Hp} {nx : Nat}
theorem run_ptrnilIn (d : Nat) {e : TypeId} (ht : P.underlying t = some (.pointer e)) (w : World) (ad : Addr) : (Op.equalIn (d + 1) t (.pointer (some ad)) (.pointer none)).run P w = .ok false w := by
  simp [Op.equalIn, run_underlying ht]
theorem run_ptrnil {e : TypeId} (ht : P.underlying t = some (.pointer e)) (w : World) (ad : Addr) : (Op.equal t (.pointer (some ad)) (.pointer none)).run P w = .ok false w := run_ptrnilIn 9999 ht w ad
theorem op_eqlnilp {e : TypeId} {id sz row col : Nat} [hd : TyD P t (.pointer e)] (ho : o.op = .binOp .eql t x (.const (.pointer none)) t') (hx : Opd G g x (.ptr id sz row col)) : OpP P o g G (BV false) :=
  .of fun S m a w hg ha => by
    have h1 := hx.rep hg (by simp [ho, Op.operands]) ha
    generalize hv : a.eval x = v at h1
    cases h1 with
    | ptr _ _ _ _ b hb =>
      refine ⟨.bool false, ?_, .fz _ _ (.lit _)⟩
      have hk : a.eval (.const (.pointer none)) = .pointer none := rfl
      have h0 : (eqGuard .eql t x (.const (.pointer none)) (.pointer (some ⟨b, row * sz + col, none⟩)) (.pointer none)).run P w = .ok () w := rfl
      have h2 := run_ptrnil (P := P) hd.h w ⟨b, row * sz + col, none⟩
      simp only [execOp, ho, hv, hk, Sem.run_bind, h0, binOp, h2, Result.andThen_ok, Sem.run_pure]
theorem op_neqnilp {e : TypeId} {id sz row col : Nat} [hd : TyD P t (.pointer e)] (ho : o.op = .binOp .neq t x (.const (.pointer none)) t') (hx : Opd G g x (.ptr id sz row col)) : OpP P o g G (BV true) :=
  .of fun S m a w hg ha => by
    have h1 := hx.rep hg (by simp [ho, Op.operands]) ha
    generalize hv : a.eval x = v at h1
    cases h1 with
    | ptr _ _ _ _ b hb =>
      refine ⟨.bool true, ?_, .fz _ _ (.lit _)⟩
      have hk : a.eval (.const (.pointer none)) = .pointer none := rfl
      have h0 : (eqGuard .neq t x (.const (.pointer none)) (.pointer (some ⟨b, row * sz + col, none⟩)) (.pointer none)).run P w = .ok () w := rfl
      have h2 := run_ptrnil (P := P) hd.h w ⟨b, row * sz + col, none⟩
      simp only [execOp, ho, hv, hk, Sem.run_bind, h0, binOp, h2, Result.andThen_ok, Sem.run_pure, Bool.not_false]
/-! ## maps -/
mutual
/-- the value of a reading that has no memory -/
def valF : FV → Value
  | .lit v => v
  | .agg fs => .agg (valFs fs).toArray
  | .tup fs => .tuple (valFs fs).toArray
  | _ => undef
def valFs : List FV → List Value
  | [] => []
  | f :: r => valF f :: valFs r
end
theorem valFs_eq : ∀ fs, valFs fs = fs.map valF
  | [] => rfl
  | f :: r => by simp [valFs, valFs_eq r]
theorem FRep.val {w : World} {S : Nat → Prop} {v : Value} {f : FV} (h : FRep w S v f) : RT.memless f = true → v = valF f := by
  induction h with
  | lit v => exact fun _ => rfl
  | agg cs fs hl _ _ ih =>
    intro hm
    simp only [RT.memless] at hm
    simp only [valF, valFs_eq]
    congr 1
    refine Array.ext' (List.ext_getElem? fun i => ?_)
    simp only [Array.getElem?_toList, List.getElem?_map]
    cases hc : cs[i]? with
    | none =>
      rw [List.getElem?_eq_none (by rw [← hl]; exact Array.getElem?_eq_none_iff.1 hc)]; rfl
    | some c =>
      have hi : i < fs.length := by rw [← hl]; exact (Array.getElem?_eq_some_iff.1 hc).1
      rw [List.getElem?_eq_getElem hi]
      exact congrArg some (ih i c fs[i] hc (List.getElem?_eq_getElem hi) (memlesss_mem hm _ (List.getElem_mem hi)))
  | tup cs fs hl _ ih =>
    intro hm
    simp only [RT.memless] at hm
    simp only [valF, valFs_eq]
    congr 1
    refine Array.ext' (List.ext_getElem? fun i => ?_)
    simp only [Array.getElem?_toList, List.getElem?_map]
    cases hc : cs[i]? with
    | none =>
      rw [List.getElem?_eq_none (by rw [← hl]; exact Array.getElem?_eq_none_iff.1 hc)]; rfl
    | some c =>
      have hi : i < fs.length := by rw [← hl]; exact (Array.getElem?_eq_some_iff.1 hc).1
      rw [List.getElem?_eq_getElem hi]
      exact congrArg some (ih i c fs[i] hc (List.getElem?_eq_getElem hi) (memlesss_mem hm _ (List.getElem_mem hi)))
  | clo => exact fun hm => by simp [RT.memless] at hm
  | nil => exact fun hm => by simp [RT.memless] at hm
  | vals => exact fun hm => by simp [RT.memless] at hm
  | cellp => exact fun hm => by simp [RT.memless] at hm
  | mapn => exact fun hm => by simp [RT.memless] at hm
  | mapv => exact fun hm => by simp [RT.memless] at hm
/-- lists of pairs, as maps -/
def mget {κ ν : Type} [DecidableEq κ] : List (κ × ν) → κ → Option ν
  | [], _ => none
  | p :: r, k => if p.1 = k then some p.2 else mget r k
def mput {κ ν : Type} [DecidableEq κ] : List (κ × ν) → κ → ν → List (κ × ν)
  | [], k, v => [(k, v)]
  | p :: r, k, v => if p.1 = k then (k, v) :: r else p :: mput r k v
abbrev OMap {κ ν : Type} (ek : κ → FV) (ev : ν → FV) (l : List (κ × ν)) : Option Ob := some (.map (l.map fun p => ek p.1) (l.map fun p => ev p.2))
theorem mget_mput {κ ν : Type} [DecidableEq κ] : ∀ (l : List (κ × ν)) (k : κ) (v : ν) (k' : κ), mget (mput l k v) k' = if k = k' then some v else mget l k'
  | [], k, v, k' => rfl
  | p :: r, k, v, k' => by
    simp only [mput]
    by_cases h : p.1 = k
    · rw [if_pos h]
      simp only [mget]
      by_cases h2 : k = k'
      · simp [h2]
      · simp [h2, h]
    · rw [if_neg h]
      simp only [mget]
      rw [mget_mput r k v k']
      by_cases h2 : p.1 = k'
      · rw [if_pos h2, if_pos h2, if_neg (by rw [← h2]; exact Ne.symm h)]
      · rw [if_neg h2, if_neg h2]
theorem mget_none {κ ν : Type} [DecidableEq κ] : ∀ {l : List (κ × ν)} {k : κ}, (∀ p ∈ l, p.1 ≠ k) → mget l k = none
  | [], _, _ => rfl
  | p :: r, k, h => by
    simp only [mget]; rw [if_neg (h p (List.mem_cons_self ..))]; exact mget_none fun q hq => h q (List.mem_cons_of_mem _ hq)
theorem mput_keys {κ ν : Type} [DecidableEq κ] : ∀ (l : List (κ × ν)) (k : κ) (v : ν) (p : κ × ν), p ∈ mput l k v → p.1 = k ∨ p ∈ l
  | [], k, v, p, h => by simp [mput] at h; subst h; exact .inl rfl
  | q :: r, k, v, p, h => by
    simp only [mput] at h
    by_cases hq : q.1 = k
    · rw [if_pos hq] at h
      rcases List.mem_cons.1 h with rfl | h
      · exact .inl rfl
      · exact .inr (List.mem_cons_of_mem _ h)
    · rw [if_neg hq] at h
      rcases List.mem_cons.1 h with rfl | h
      · exact .inr (List.mem_cons_self ..)
      · exact (mput_keys r k v p h).imp id (List.mem_cons_of_mem _)
theorem mput_len {κ ν : Type} [DecidableEq κ] : ∀ (l : List (κ × ν)) (k : κ) (v : ν), (mput l k v).length ≤ l.length + 1
  | [], _, _ => by simp [mput]
  | q :: r, k, v => by
    simp only [mput]
    split
    · simp
    · have := mput_len r k v; simp only [List.length_cons]; omega
/-- keys of a type, encoded -/
class KEnc (P : Program) (kt : TypeId) (κ : Type) (ek : κ → FV) (okK : outParam (κ → Prop)) : Prop where
  keyed : Maps.Keyed P kt
  ml : ∀ k, memless (ek k) = true
  some : ∀ k, okK k → ∃ l, keyOf P kt (valF (ek k)) = some l
  inj : ∀ a b, valF (ek a) = valF (ek b) → a = b
theorem kenc_int {kt : TypeId} {q : IntKind} (hk : P.underlying kt = some (.int q)) : KEnc P kt Int (fun n => If q n) (inr q) :=
  ⟨Maps.int_keyed hk, fun _ => rfl, fun n hn => ⟨_, Maps.keyOf_int_mk hk (by cases q <;> simp only [inr] at hn <;> simp [Lit.wf, IntKind.min, IntKind.max, IntKind.bits, IntKind.signed] <;> omega)⟩, fun a b h => by simpa [valF] using h⟩
open Go.ChangeMaps (setBlock)
theorem setB_same {w : World} {b : Nat} {o : Obj} (h : b < w.heap.size) : (setBlock w b o).heap[b]? = some o := by simp [setBlock, h]
theorem setB_other {w : World} {b k : Nat} {o : Obj} (h : k ≠ b) : (setBlock w b o).heap[k]? = w.heap[k]? := by simp [setBlock, Ne.symm h]
theorem Mem.writeM {C : Cx} {H : Hp} {nx : Nat} {S : Nat → Prop} {m : Ids} {w : World} (hm : Mem C H nx S m w) {id b : Nat} {o o' : Ob} (hid : hlook H id = some o) (hb : m id = some (some b)) {arr arr' : Array MapEntry} {cl cl' : Nat}
    (hc : w.heap[b]? = some (.map arr cl)) (hpl : o'.plain) (ho : ∀ w', Le S m w S m w' → w'.heap[b]? = some (.map arr' cl') → ORep w' S m id o') :
    Mem C ((id, some o') :: H) nx S m (setBlock w b (.map arr' cl')) ∧ Le S m w S m (setBlock w b (.map arr' cl')) := by
  have hbl : b < w.heap.size := (Array.getElem?_eq_some_iff.1 hc).1
  have hnew : (setBlock w b (.map arr' cl')).heap[b]? = some (.map arr' cl') := setB_same hbl
  have hold : ∀ k, k ≠ b → (setBlock w b (.map arr' cl')).heap[k]? = w.heap[k]? := fun k hk => setB_other hk
  have hsz : (setBlock w b (.map arr' cl')).heap.size = w.heap.size := by simp [setBlock]
  obtain ⟨hS, hlt, hor⟩ := hm.blk id o b hid hb
  have hle : Le S m w S m (setBlock w b (.map arr' cl')) := by
    refine ⟨fun _ h => h, fun k hk => hold k (fun e => hS (e ▸ hk)), fun i x hi => hi, fun k n hr => ?_⟩
    obtain ⟨c1, e1, fr, h1, h2⟩ := hr
    by_cases hk : k = b
    · subst hk; rw [hc] at h1; cases h1
    · exact ⟨c1, e1, fr, (hold k hk).trans h1, h2⟩
  have ex : ∀ id' o2, hlook ((id, some o') :: H) id' = some o2 → ∃ o3, hlook H id' = some o3 := fun id' o2 ho2 => by
    rw [hlook_cons] at ho2
    by_cases hi : id = id'
    · subst hi; exact ⟨_, hid⟩
    · rw [if_neg hi] at ho2; exact ⟨_, ho2⟩
  refine ⟨hm.step hle ⟨rfl, Nat.le_refl _⟩ rfl rfl (fun a _ => ?_) (by rw [hsz]; exact Nat.le_refl _) (fun k hk hno => hold k (fun e => ?_)) (fun b hb => .inl hb) (fun id' o2 ho2 => ?_) (fun id' o2 b2 ho2 hb2 => ?_) (fun i1 i2 o1 o2 b2 h1 h2 h3 h4 => ?_) (fun k hk => by rw [hsz]; exact hm.stab k hk) hm.fresh ?_, hle⟩
  · by_cases hab : a.block = b
    · simp only [World.frozen?, hab, hnew, hc]
    · simp only [World.frozen?, hold _ hab]
  · subst e; rcases hor with h | h
    · omega
    · exact hno h
  · rw [hlook_cons] at ho2
    by_cases hi : id = id'
    · rw [if_pos hi] at ho2; cases ho2; subst hi; exact ho _ hle hnew
    · rw [if_neg hi] at ho2
      exact (hm.objs id' o2 ho2).mono hle fun b2 hb2 => hold b2 (fun e => hi (hm.inj id id' o o2 b hid ho2 hb (e ▸ hb2)))
  · obtain ⟨o3, ho3⟩ := ex id' o2 ho2
    obtain ⟨h1, h2, h3⟩ := hm.blk id' o3 b2 ho3 hb2
    exact ⟨h1, by rw [hsz]; exact h2, h3⟩
  · obtain ⟨_, k1⟩ := ex i1 o1 h1
    obtain ⟨_, k2⟩ := ex i2 o2 h2
    exact hm.inj i1 i2 _ _ b2 k1 k2 h3 h4
  · refine hm.nkeep hle (by rw [hsz]; exact Nat.le_refl _) (fun id' sz i j isz irows hO => ?_) (fun id' sz i j isz irows b2 c2 e2 u hO k1 k2 k3 => ⟨c2, e2, (hold b2 (fun e => by subst e; rw [hc] at k2; cases k2)).trans k2, k3⟩) (fun b' h1 h2 h3 => ⟨hold b' (fun e => h3 _ _ hid (e ▸ hb)), h2, fun id2 o2 ho2 => ?_⟩)
    · by_cases hi : id = id'
      · exact (hO.notPlain (o := o') (by rw [hlook_cons, if_pos hi]) hpl).elim
      · exact hO.of fun o2 h => by rwa [hlook_cons, if_neg hi] at h
    · obtain ⟨o3, ho3⟩ := ex _ _ ho2; exact h3 _ _ ho3
theorem Mem.newM {C : Cx} {H : Hp} {nx : Nat} {S : Nat → Prop} {m : Ids} {w : World} (hm : Mem C H nx S m w) :
    Mem C ((nx, some (.map [] [])) :: H) (nx + 1) S (setM m nx (some w.heap.size)) (w.alloc (.map #[] 0)) ∧ Le S m w S (setM m nx (some w.heap.size)) (w.alloc (.map #[] 0)) := by
  have hnew : (w.alloc (.map #[] 0)).heap[w.heap.size]? = some (.map #[] 0) := heap_alloc_new w _
  have hold : ∀ b, b < w.heap.size → (w.alloc (.map #[] 0)).heap[b]? = w.heap[b]? := fun b hb => RowKit.Below.heap_alloc w _ b hb
  have hids : ∀ i x, m i = some x → i ≠ nx := fun i x hi => by have := hm.lt hi; omega
  have hle : Le S m w S (setM m nx (some w.heap.size)) (w.alloc (.map #[] 0)) := by
    refine ⟨fun _ h => h, fun b hb => hold b (hm.stab b hb), fun i x hi => by rw [setM_other (hids i x hi)]; exact hi, fun b n hr => ?_⟩
    obtain ⟨c', e', fr, h1, h2⟩ := hr
    have : b < w.heap.size := (Array.getElem?_eq_some_iff.1 h1).1
    exact ⟨c', e', fr, (hold b this).trans h1, h2⟩
  refine ⟨hm.step hle ⟨rfl, Nat.le_refl _⟩ rfl rfl (fun a ha => ?_) (by simp) (fun b hb _ => hold b (Nat.lt_of_lt_of_le hb hm.size)) (fun b hb => .inl hb) (fun id o' ho' => ?_) (fun id o' b ho' hb => ?_) (fun id id' o' o'' b h1 h2 h3 h4 => ?_) (fun b hb => ?_) (fun i hi => ?_) ?_, hle⟩
  · simp only [World.frozen?, hold _ ha]
  · rw [hlook_cons] at ho'
    by_cases hid : nx = id
    · rw [if_pos hid] at ho'; cases ho'; subst hid
      exact ⟨_, #[], 0, setM_self _ _ _, hnew, rfl, rfl, fun i e f h => by simp at h, fun i e f h => by simp at h⟩
    · rw [if_neg hid] at ho'
      exact (hm.objs id o' ho').mono hle fun b hb => hold b (hm.blk id o' b ho' hb).2.1
  · rw [hlook_cons] at ho'
    by_cases hid : nx = id
    · subst hid
      rw [setM_self] at hb; cases hb
      exact ⟨fun h => Nat.lt_irrefl _ (hm.stab _ h), by simp, .inl hm.size⟩
    · rw [if_neg hid] at ho'
      rw [setM_other (fun h => hid h.symm)] at hb
      obtain ⟨h1, h2, h3⟩ := hm.blk id o' b ho' hb
      exact ⟨h1, by simp; omega, h3⟩
  · rw [hlook_cons] at h1 h2
    by_cases ha : nx = id <;> by_cases hb : nx = id'
    · exact ha.symm.trans hb
    · subst ha
      rw [if_neg hb] at h2
      rw [setM_self] at h3; cases h3
      rw [setM_other (fun h => hb h.symm)] at h4
      exact absurd (hm.blk id' o'' _ h2 h4).2.1 (Nat.lt_irrefl _)
    · subst hb
      rw [if_neg ha] at h1
      rw [setM_self] at h4; cases h4
      rw [setM_other (fun h => ha h.symm)] at h3
      exact absurd (hm.blk id o' _ h1 h3).2.1 (Nat.lt_irrefl _)
    · rw [if_neg ha] at h1; rw [if_neg hb] at h2
      rw [setM_other (fun h => ha h.symm)] at h3; rw [setM_other (fun h => hb h.symm)] at h4
      exact hm.inj id id' o' o'' b h1 h2 h3 h4
  · have := hm.stab b hb; simp; omega
  · rw [setM_other (by omega)]; exact hm.fresh i (by omega)
  · have hOE : ∀ id sz i j isz irows, OwnE ((nx, some (.map [] [])) :: H) id sz i j isz irows → OwnE H id sz i j isz irows := fun id sz i j isz irows hO => by
      by_cases hid : nx = id
      · exact (hO.notPlain (o := .map [] []) (by rw [hlook_cons, if_pos hid]) trivial).elim
      · exact hO.of fun o2 h => by rwa [hlook_cons, if_neg hid] at h
    refine hm.nkeep hle (by simp) hOE (fun id sz i j isz irows b c2 e2 u hO k1 k2 k3 => ⟨c2, e2, (hold b (Array.getElem?_eq_some_iff.1 k2).1).trans k2, k3⟩) (fun b' h1 h2 h3 => ⟨hold b' h1, h2, fun id2 o2 ho2 hc => ?_⟩)
    rw [hlook_cons] at ho2
    by_cases hid : nx = id2
    · subst hid; rw [setM_self] at hc; cases hc; exact Nat.lt_irrefl _ h1
    · rw [if_neg hid] at ho2; rw [setM_other (fun h => hid h.symm)] at hc; exact h3 _ _ ho2 hc
theorem op_makeMap (ho : o.op = .makeMap t none) : OpS P o g G H nx (.mp nx) ((nx, some (.map [] [])) :: H) (nx + 1) :=
  ⟨fun C S m a w hm hg ha K Q hK => by
    obtain ⟨k1, k2⟩ := hm.newM
    refine wp_value (w' := w.alloc (.map #[] 0)) (v := .map (some w.heap.size)) ?_ (hK _ _ _ _ k1 k2 (.mp _ _ (setM_self _ _ _)))
    have hmk : (Instr.makeMap t none).run P w = .ok (.map (some w.heap.size)) (w.alloc (.map #[] 0)) := rfl
    simp only [execOp, ho, Option.map_none, Sem.run_bind, hmk, Result.andThen_ok, Sem.run_pure]⟩
section
variable {κ ν : Type} [DecidableEq κ] {ek : κ → FV} {ev : ν → FV} {okK : κ → Prop} {kt et : TypeId}
theorem mget_at : ∀ {l : List (κ × ν)}, (l.map (·.1)).Nodup → ∀ {j : Nat} {p : κ × ν}, l[j]? = some p → mget l p.1 = some p.2
  | q :: r, hn, 0, p, h => by simp at h; subst h; simp [mget]
  | q :: r, hn, j + 1, p, h => by
    simp only [List.map_cons, List.nodup_cons] at hn
    have hr : r[j]? = some p := by simpa using h
    simp only [mget]
    rw [if_neg (fun e => hn.1 (by rw [e]; exact List.mem_map_of_mem (List.mem_of_getElem? hr)))]
    exact mget_at hn.2 hr
theorem mput_at : ∀ {l : List (κ × ν)}, (l.map (·.1)).Nodup → ∀ {j : Nat} {p : κ × ν} {v : ν}, l[j]? = some p → mput l p.1 v = l.set j (p.1, v)
  | q :: r, hn, 0, p, v, h => by simp at h; subst h; simp [mput]
  | q :: r, hn, j + 1, p, v, h => by
    simp only [List.map_cons, List.nodup_cons] at hn
    have hr : r[j]? = some p := by simpa using h
    simp only [mput, List.set_cons_succ]
    rw [if_neg (fun e => hn.1 (by rw [e]; exact List.mem_map_of_mem (List.mem_of_getElem? hr)))]
    rw [mput_at hn.2 hr]
theorem mput_new : ∀ {l : List (κ × ν)} {k : κ} {v : ν}, (∀ p ∈ l, p.1 ≠ k) → mput l k v = l ++ [(k, v)]
  | [], _, _, _ => rfl
  | q :: r, k, v, h => by
    simp only [mput]
    rw [if_neg (h q (List.mem_cons_self ..)), mput_new fun p hp => h p (List.mem_cons_of_mem _ hp)]; rfl
theorem mput_nodup : ∀ {l : List (κ × ν)} {k : κ} {v : ν}, (l.map (·.1)).Nodup → ((mput l k v).map (·.1)).Nodup
  | [], _, _, _ => by simp [mput]
  | q :: r, k, v, h => by
    simp only [List.map_cons, List.nodup_cons] at h
    simp only [mput]
    by_cases hq : q.1 = k
    · rw [if_pos hq]; simp only [List.map_cons, List.nodup_cons]; rw [← hq]; exact h
    · rw [if_neg hq]
      simp only [List.map_cons, List.nodup_cons]
      refine ⟨fun hm => ?_, mput_nodup h.2⟩
      obtain ⟨p, hp, he⟩ := List.mem_map.1 hm
      rcases mput_keys r k v p hp with h1 | h1
      · exact hq (by rw [← he]; exact h1)
      · exact h.1 (by rw [← he]; exact List.mem_map_of_mem h1)
/-- the search for a key in a map's block -/
theorem map_find [K : KEnc P kt κ ek okK] {w : World} {S : Nat → Prop} {l : List (κ × ν)} {arr : Array MapEntry} (hs : arr.size = (l.map fun p => ek p.1).length) (hk : ∀ (i : Nat) (e : MapEntry) (f : FV), arr[i]? = some e → (l.map fun p => ek p.1)[i]? = some f → FRep w S e.key f)
    (hok : ∀ p ∈ l, okK p.1) {k : κ} (hkk : okK k) (w2 : World) :
    ((Instr.findKey kt (valF (ek k)) arr.toList).run P w2 = .ok none w2 ∧ ∀ p ∈ l, p.1 ≠ k) ∨ ∃ j e p, (Instr.findKey kt (valF (ek k)) arr.toList).run P w2 = .ok (some (j, e.val)) w2 ∧ arr[j]? = some e ∧ l[j]? = some p ∧ p.1 = k ∧ e.key = valF (ek k) := by
  obtain ⟨lx, hlx⟩ := K.some k hkk
  have hkey : ∀ (i : Nat) (e : MapEntry), arr[i]? = some e → ∃ p, l[i]? = some p ∧ e.key = valF (ek p.1) := fun i e he => by
    have hi : i < l.length := by have := (Array.getElem?_eq_some_iff.1 he).1; simp at hs; omega
    exact ⟨l[i], List.getElem?_eq_getElem hi, (hk i e _ he (by rw [List.getElem?_map, List.getElem?_eq_getElem hi]; rfl)).val (K.ml _)⟩
  rcases K.keyed.find w2 hlx arr.toList (fun e he => by
    obtain ⟨i, hi⟩ := List.mem_iff_getElem?.1 he
    rw [Array.getElem?_toList] at hi
    obtain ⟨p, hp, h1⟩ := hkey i e hi
    obtain ⟨l1, h2⟩ := K.some p.1 (hok p (List.mem_of_getElem? hp))
    exact ⟨l1, by rw [h1]; exact h2⟩) with ⟨h1, h2⟩ | ⟨j, e, h1, h2, h3⟩
  · refine .inl ⟨h1, fun p hp he => ?_⟩
    obtain ⟨i, hi⟩ := List.mem_iff_getElem?.1 hp
    have hil : i < arr.size := by rw [hs]; simp; exact (List.getElem?_eq_some_iff.1 hi).1
    obtain ⟨p', hp', h4⟩ := hkey i arr[i] (Array.getElem?_eq_getElem hil)
    rw [hi] at hp'; cases hp'
    exact h2 arr[i] (by simp) (by rw [h4, he])
  · rw [Array.getElem?_toList] at h2
    obtain ⟨p, hp, h4⟩ := hkey j e h2
    exact .inr ⟨j, e, p, h1, h2, hp, K.inj _ _ (by rw [← h4, h3]), h3⟩
theorem op_lookup {sz by_ : Nat} {z : Value} {id : Nat} {l : List (κ × ν)} {k : κ} (d0 : ν) [K : KEnc P kt κ ek okK] [hd : TyD P t (.map kt et)] [hn : TyN P et sz by_ z] (ho : o.op = .lookup t x y false) (hx : Opd G g x (.mp id)) (hy : Opd G g y (.fz (ek k)))
    (hl : hlook H id = OMap ek ev l) (hh : g = true → (l.map (·.1)).Nodup ∧ (∀ p ∈ l, okK p.1) ∧ okK k) (hz : ∀ w S, FRep w S z (ev d0)) : OpL P o g G H [id] (.fz (ev ((mget l k).getD d0))) := fun H' nx' hag =>
  have hl := (hag id (by simp)).trans hl
  .of fun C S m a w hm hg ha => by
    have h1 := hx.rep hg (by simp [ho, Op.operands]) ha
    have h2 := (hy.rep hg (by simp [ho, Op.operands]) ha).frz.val (K.ml k)
    obtain ⟨hnd, hok, hkk⟩ := hh hg
    obtain ⟨b, arr, cl, k1, k2, k3, k4, k5, k6⟩ := hm.objs _ _ hl
    obtain ⟨lx, hlx⟩ := K.some k hkk
    generalize hv : a.eval x = v at h1
    cases h1 with
    | mp _ b2 hb2 =>
      rw [hb2] at k1; cases k1
      have hck := K.keyed.check w arr.isEmpty hlx
      rcases map_find (P := P) (kt := kt) k3 k5 hok hkk w with ⟨q1, q2⟩ | ⟨j, e, p, q1, q2, q3, q4, q5⟩
      · refine ⟨z, ?_, .fz _ _ (by rw [mget_none q2]; exact hz _ _)⟩
        simp only [execOp, ho, hv, h2, Instr.lookup, Sem.run_bind, run_underlying hd.h, MapKept.run_getObj_map k2, hck, q1, run_zero hn, Result.andThen_ok, Sem.run_pure, Bool.false_eq_true, if_false]
      · refine ⟨e.val, ?_, .fz _ _ (by rw [← q4, mget_at hnd q3]; exact k6 j e _ q2 (by rw [List.getElem?_map, q3]; rfl))⟩
        simp only [execOp, ho, hv, h2, Instr.lookup, Sem.run_bind, run_underlying hd.h, MapKept.run_getObj_map k2, hck, q1, Result.andThen_ok, Sem.run_pure, Bool.false_eq_true, if_false]
theorem op_lookup2 {sz by_ : Nat} {z : Value} {id : Nat} {l : List (κ × ν)} {k : κ} (d0 : ν) [K : KEnc P kt κ ek okK] [hd : TyD P t (.map kt et)] [hn : TyN P et sz by_ z] (ho : o.op = .lookup t x y true) (hx : Opd G g x (.mp id)) (hy : Opd G g y (.fz (ek k)))
    (hl : hlook H id = OMap ek ev l) (hh : g = true → (l.map (·.1)).Nodup ∧ (∀ p ∈ l, okK p.1) ∧ okK k) (hz : ∀ w S, FRep w S z (ev d0)) : OpL P o g G H [id] (.fz (.tup [ev ((mget l k).getD d0), Bf (mget l k).isSome])) := fun H' nx' hag =>
  have hl := (hag id (by simp)).trans hl
  .of fun C S m a w hm hg ha => by
    have h1 := hx.rep hg (by simp [ho, Op.operands]) ha
    have h2 := (hy.rep hg (by simp [ho, Op.operands]) ha).frz.val (K.ml k)
    obtain ⟨hnd, hok, hkk⟩ := hh hg
    obtain ⟨b, arr, cl, k1, k2, k3, k4, k5, k6⟩ := hm.objs _ _ hl
    obtain ⟨lx, hlx⟩ := K.some k hkk
    have tup : ∀ (v1 : Value) (f1 : FV) (bb : Bool), FRep w S v1 f1 → Rep w S m (.tuple #[v1, .bool bb]) (.fz (.tup [f1, Bf bb])) := fun v1 f1 bb h => rep_tup2 (.fz _ _ h) (.fz _ _ (.lit _))
    generalize hv : a.eval x = v at h1
    cases h1 with
    | mp _ b2 hb2 =>
      rw [hb2] at k1; cases k1
      have hck := K.keyed.check w arr.isEmpty hlx
      rcases map_find (P := P) (kt := kt) k3 k5 hok hkk w with ⟨q1, q2⟩ | ⟨j, e, p, q1, q2, q3, q4, q5⟩
      · refine ⟨.tuple #[z, .bool false], ?_, by rw [mget_none q2]; exact tup _ _ _ (hz _ _)⟩
        simp only [execOp, ho, hv, h2, Instr.lookup, Sem.run_bind, run_underlying hd.h, MapKept.run_getObj_map k2, hck, q1, run_zero hn, Result.andThen_ok, Sem.run_pure, if_true]
      · refine ⟨.tuple #[e.val, .bool true], ?_, by rw [← q4, mget_at hnd q3]; exact tup _ _ _ (k6 j e _ q2 (by rw [List.getElem?_map, q3]; rfl))⟩
        simp only [execOp, ho, hv, h2, Instr.lookup, Sem.run_bind, run_underlying hd.h, MapKept.run_getObj_map k2, hck, q1, Result.andThen_ok, Sem.run_pure, if_true]
/-- 'm[k] = v' -/
theorem op_mapPut {z' : Operand} {id : Nat} {l : List (κ × ν)} {k : κ} {v : ν} [K : KEnc P kt κ ek okK] [hd : TyD P t (.map kt et)] (ho : o.op = .mapUpdate t x y z' ∨ o.op = .insert t x y z') (hx : Opd G g x (.mp id)) (hy : Opd G g y (.fz (ek k))) (hv' : Opd G g z' (.fz (ev v)))
    (hl : hlook H id = OMap ek ev l) (hnd : (l.map (·.1)).Nodup) (hok : ∀ p ∈ l, okK p.1) (hkk : okK k) : OpS P o g G H nx (.fz (.lit undef)) ((id, OMap ek ev (mput l k v)) :: H) nx :=
  ⟨fun C S m a w hm hg ha KK Q hK => by
    have h1 := hx.rep hg (by rcases ho with ho | ho <;> simp [ho, Op.operands]) ha
    have h2 := (hy.rep hg (by rcases ho with ho | ho <;> simp [ho, Op.operands]) ha).frz
    have h3 := (hv'.rep hg (by rcases ho with ho | ho <;> simp [ho, Op.operands]) ha).frz
    obtain ⟨b, arr, cl, k1, k2, k3, k4, k5, k6⟩ := hm.objs _ _ hl
    obtain ⟨lx, hlx⟩ := K.some k hkk
    generalize hv : a.eval x = vm at h1
    generalize hky : a.eval y = vk at h2
    generalize hvv : a.eval z' = vv at h3
    have hex : ∀ w', (Instr.mapUpdate t vm vk vv).run P w = .ok () w' → (execOp a.eval o).run P w = .ok .skip w' := fun w' h => by
      rcases ho with ho | ho <;> simp only [execOp, ho, hv, hky, hvv, Sem.run_bind, h, Result.andThen_ok, Sem.run_pure]
    have h2v := h2.val (K.ml k)
    cases h1 with
    | mp _ b2 hb2 =>
      rw [hb2] at k1; cases k1
      have hck := K.keyed.check w false hlx
      have hst := K.keyed.stays w hlx
      rcases map_find (P := P) (kt := kt) k3 k5 hok hkk w with ⟨q1, q2⟩ | ⟨j, e, p, q1, q2, q3, q4, q5⟩
      · obtain ⟨m1, m2⟩ := hm.writeM hl hb2 k2 (arr' := arr.push { key := vk, val := vv, born := cl }) (cl' := cl + 1) (o' := .map ((mput l k v).map fun p => ek p.1) ((mput l k v).map fun p => ev p.2)) trivial (fun w' hle hb => by
          rw [mput_new q2]
          refine ⟨_, _, _, hb2, hb, by simp [k3], by simpa using k4, fun i e f he hf => ?_, fun i e f he hf => ?_⟩
          · rw [Array.getElem?_push] at he
            by_cases hi : i = arr.size
            · rw [if_pos hi] at he; cases he
              rw [List.map_append, List.getElem?_append_right (by rw [hi, k3]; exact Nat.le_refl _), hi, k3, Nat.sub_self] at hf
              cases hf; exact h2.mono hle.st hle.same
            · rw [if_neg hi] at he
              have : i < arr.size := (Array.getElem?_eq_some_iff.1 he).1
              rw [List.map_append, List.getElem?_append_left (by rw [← k3]; exact this)] at hf
              exact (k5 i e f he hf).mono hle.st hle.same
          · rw [Array.getElem?_push] at he
            by_cases hi : i = arr.size
            · rw [if_pos hi] at he; cases he
              rw [List.map_append, List.getElem?_append_right (by rw [hi, k4]; exact Nat.le_refl _), hi, k4, Nat.sub_self] at hf
              cases hf; exact h3.mono hle.st hle.same
            · rw [if_neg hi] at he
              have : i < arr.size := (Array.getElem?_eq_some_iff.1 he).1
              rw [List.map_append, List.getElem?_append_left (by rw [← k4]; exact this)] at hf
              exact (k6 i e f he hf).mono hle.st hle.same)
        refine wp_skip_op (hex _ ?_) (hK _ _ _ _ m1 m2 (.fz _ _ (.lit _)))
        rw [h2v]
        simp only [Instr.mapUpdate, Sem.run_bind, run_underlying hd.h, MapKept.run_getObj_map k2, hck, q1, MapKept.run_setObj_map _ k2, Result.andThen_ok, Sem.run_pure, setBlock]
      · obtain ⟨m1, m2⟩ := hm.writeM hl hb2 k2 (arr' := arr.modify j fun e => { e with key := vk, val := vv }) (cl' := cl) (o' := .map ((mput l k v).map fun p => ek p.1) ((mput l k v).map fun p => ev p.2)) trivial (fun w' hle hb => by
          rw [← q4, mput_at hnd q3]
          refine ⟨_, _, _, hb2, hb, by simpa using k3, by simpa using k4, fun i e' f he hf => ?_, fun i e' f he hf => ?_⟩
          · rw [Array.getElem?_modify] at he
            rw [List.getElem?_map, List.getElem?_set] at hf
            by_cases hi : j = i
            · subst hi
              rw [if_pos rfl, q2] at he
              rw [if_pos rfl, if_pos (List.getElem?_eq_some_iff.1 q3).1] at hf
              cases he; cases hf; rw [q4]; exact h2.mono hle.st hle.same
            · rw [if_neg hi] at he hf
              exact (k5 i e' f he (by rw [List.getElem?_map]; exact hf)).mono hle.st hle.same
          · rw [Array.getElem?_modify] at he
            rw [List.getElem?_map, List.getElem?_set] at hf
            by_cases hi : j = i
            · subst hi
              rw [if_pos rfl, q2] at he
              rw [if_pos rfl, if_pos (List.getElem?_eq_some_iff.1 q3).1] at hf
              cases he; cases hf; exact h3.mono hle.st hle.same
            · rw [if_neg hi] at he hf
              exact (k6 i e' f he (by rw [List.getElem?_map]; exact hf)).mono hle.st hle.same)
        refine wp_skip_op (hex _ ?_) (hK _ _ _ _ m1 m2 (.fz _ _ (.lit _)))
        rw [h2v]
        simp only [Instr.mapUpdate, Sem.run_bind, run_underlying hd.h, MapKept.run_getObj_map k2, hck, q1, q2, q5, Option.map_some, Option.getD_some, hst, MapKept.run_setObj_map _ k2, Result.andThen_ok, Sem.run_pure, setBlock]⟩
theorem op_maplen {id : Nat} {l : List (κ × ν)} [hd : TyD P t (.map kt et)] (ho : o.op = .call { callee := .builtin .len, args := #[x], argTypes := #[t] }) (hx : Opd G g x (.mp id)) (hl : hlook H id = OMap ek ev l) : OpL P o g G H [id] (IV .i64 l.length) := fun H' nx' hag =>
  have hl := (hag id (by simp)).trans hl
  .of fun C S m a w hm hg ha => by
    have h1 := hx.rep hg (by simp [ho, Op.operands, Call.operands]) ha
    obtain ⟨b, arr, cl, k1, k2, k3, k4, k5, k6⟩ := hm.objs _ _ hl
    generalize hv : a.eval x = v at h1
    cases h1 with
    | mp _ b2 hb2 =>
      rw [hb2] at k1; cases k1
      have hs : arr.size = l.length := by simpa using k3
      refine ⟨.int .i64 l.length, ?_, .fz _ _ (.lit _)⟩
      simp only [execOp, ho, resolve, invoke, builtin, List.map_toArray, List.map_cons, List.map_nil, hv, Builtin.len_, Sem.run_bind, Sem.run_pure, Result.andThen_ok]
      simp [run_underlying hd.h, MapKept.run_getObj_map k2, goInt, hs]
theorem op_mapclear {id : Nat} {l : List (κ × ν)} [hd : TyD P t (.map kt et)] (ho : o.op = .call { callee := .builtin .clear, args := #[x], argTypes := #[t] }) (hx : Opd G g x (.mp id)) (hl : hlook H id = OMap ek ev l) : OpS P o g G H nx (.fz (.tup [])) ((id, some (.map [] [])) :: H) nx :=
  ⟨fun C S m a w hm hg ha KK Q hK => by
    have h1 := hx.rep hg (by simp [ho, Op.operands, Call.operands]) ha
    obtain ⟨b, arr, cl, k1, k2, k3, k4, k5, k6⟩ := hm.objs _ _ hl
    generalize hv : a.eval x = v at h1
    cases h1 with
    | mp _ b2 hb2 =>
      rw [hb2] at k1; cases k1
      obtain ⟨m1, m2⟩ := hm.writeM hl hb2 k2 (arr' := #[]) (cl' := cl) (o' := .map [] []) trivial (fun w' hle hb => ⟨_, _, _, hb2, hb, rfl, rfl, fun i e f h => by simp at h, fun i e f h => by simp at h⟩)
      refine wp_value (v := .tuple #[]) ?_ (hK _ _ _ _ m1 m2 (.fz _ _ (.tup _ _ rfl (fun i c f h => by simp at h))))
      simp only [execOp, ho, resolve, invoke, builtin, List.map_toArray, List.map_cons, List.map_nil, hv, Builtin.clear_, Sem.run_bind, Sem.run_pure, Result.andThen_ok]
      simp [run_underlying hd.h, MapKept.run_getObj_map k2, MapKept.run_setObj_map _ k2, setBlock]⟩
end
end
end Go.RT
/- A call that is lent objects and leaves them as they were. -/
namespace Go.RT
open Go
set_option linter.all false
section
variable {P : Program} {o : Oper} {g : Bool} {G : Env} {H : Hp} {nx : Nat}
theorem Lent.agree {L : List Nat} {n : Nat} {H H' Hin : Hp} (h : Lent L n H Hin) (ha : ∀ i, L.contains i = true → hlook H' i = hlook H i) : Lent L n H' Hin :=
  ⟨h.len, h.nodup, h.all, fun i o hi => by
    obtain ⟨h1, h2, h3⟩ := h.get i o hi
    exact ⟨h1, (ha _ (by simp only [List.contains_eq_mem, decide_eq_true_eq, renI, List.getD_eq_getElem?_getD]; rw [List.getElem?_eq_getElem (by rw [h.len]; exact h1)]; exact List.getElem_mem _)).trans h2, h3⟩⟩
theorem callH_same {L : List Nat} {n : Nat} {H Hin : Hp} (h : Lent L n H Hin) (hHo : ∀ x ∈ Hin, x.1 < n) (id : Nat) : hlook (callH L Hin L H) id = hlook H id := by
  have hnd := nodupB_spec h.nodup
  have hmem : ∀ i, i < n → renI L i ∈ L := fun i hi => by simp [renI, h.len, hi]
  unfold callH
  rw [List.append_assoc, hlook_append]
  split
  · rename_i hm
    obtain ⟨x, hx, rfl⟩ := List.mem_map.1 hm
    obtain ⟨y, hy, rfl⟩ := List.mem_map.1 hx
    have hlt := hHo y hy
    simp only [renE]
    rw [hlook_ren h.len hnd hHo y.1 hlt]
    obtain ⟨o2, ho2⟩ := h.all y.1 hlt
    rw [ho2, (h.get y.1 o2 ho2).2.1]; rfl
  · rename_i hm
    rw [hlook_append]
    split
    · rename_i hm2
      exfalso
      obtain ⟨x, hx, rfl⟩ := List.mem_map.1 hm2
      obtain ⟨i, hi, rfl⟩ := List.mem_map.1 hx
      obtain ⟨j, hj, he⟩ := List.getElem_of_mem hi
      have hjn : j < n := by rw [← h.len]; exact hj
      obtain ⟨o2, ho2⟩ := h.all j hjn
      refine hm (List.mem_map.2 ⟨renE L (j, some o2), List.mem_map.2 ⟨(j, some o2), ?_, rfl⟩, ?_⟩)
      · have : ∀ {A : Hp}, hlook A j = some o2 → (j, some o2) ∈ A := fun {A} hA => by
          induction A with
          | nil => cases hA
          | cons a A ih =>
            obtain ⟨k, v⟩ := a
            rw [hlook_cons] at hA
            by_cases hk : k = j
            · rw [if_pos hk] at hA; subst hk; rw [hA]; exact List.mem_cons_self ..
            · rw [if_neg hk] at hA; exact List.mem_cons_of_mem _ (ih hA)
        exact this ho2
      · simp [renE, renI, hj, he]
    · rfl
/-- A CALL THAT READS lent objects and leaves them as they were. -/
theorem op_call_read {f : FuncId} {cf : Operand} {xs : List Operand} {ts : Array TypeId} {fs cs ps args : List PV} {n : Nat} {Hin : Hp} {res : FV} (L : List Nat) (hM : g = true → Meets P f args n Hin (.fz res) Hin n) [hb : FnB P f] (ho : o.op = .call { callee := .value cf, args := xs.toArray, argTypes := ts })
    (hf : Opd G g cf (.clo f fs cs)) (hx : Opds G g xs ps) (hargs : fs ++ ps ++ cs = args.map (renP L)) (hlt : args.all (ltP n) = true) (hL : Lent L n H Hin) (hHo : Hin.all (fun x => Nat.blt x.1 n) = true) : OpL P o g G H L (.fz res) := fun H' nx' hag => by
  have hL' := hL.agree hag
  have hHo' : ∀ x ∈ Hin, x.1 < n := fun x hx => blt_of (List.all_eq_true.1 hHo x hx)
  have h := op_call (P := P) (o := o) (g := g) (G := G) (H := H') (nx := nx') (H' := callH (L ++ List.range' nx' (n - n)) Hin L H') (nx' := nx' + (n - n)) (res' := .fz res) L hM ho hf hx hargs hlt hL' (by simp [Nat.ble_eq]) hHo rfl rfl rfl
  refine ⟨fun C S m a w hm hg ha K Q hK => h.run C S m a w hm hg ha K Q fun v w' S' m' hm' hle hr => hK v w' S' m' ?_ hle hr⟩
  rw [Nat.sub_self, Nat.add_zero] at hm'
  simp only [List.range'_zero, List.append_nil] at hm'
  exact hm'.reheap2 fun id => (callH_same hL' hHo' id).symm
end
end Go.RT
/- The engine, part 30: a region that draws, order by order. -/
namespace Go.RT
section
variable {P : Program} {ops : Array Oper} {N : Nat} {C : Cx} {Q : Exit → Act → World → Prop} {X : Array Bool} {G : Env} {H : Hp} {nx : Nat}
/-- from any point of a region that draws -/
def AnyN (P : Program) (ops : Array Oper) (N : Nat) (C : Cx) (Q : Exit → Act → World → Prop) (X : Array Bool) (G : Env) (H : Hp) (nx : Nat) : Prop :=
  ∀ fuel a w, (X.toList.filter (!·)).length ≤ fuel → Rel C N G H nx a w → wpAny P .any ops Q fuel X a w
def StepN (P : Program) (ops : Array Oper) (N : Nat) (C : Cx) (Q : Exit → Act → World → Prop) (X : Array Bool) (G : Env) (H : Hp) (nx : Nat) (i : Nat) : Prop :=
  ∃ o, ops[i]? = some o ∧ o.guard = none ∧ (match o.dst with | some d => Nat.blt d N | none => true) = true ∧ Nat.blt ((X.setIfInBounds i true).toList.filter (!·)).length (X.toList.filter (!·)).length = true ∧
    ∃ p H1 nx1, OpS P o true G H nx p H1 nx1 ∧ AnyN P ops N C Q (X.setIfInBounds i true) (gput G o.dst p) H1 nx1
theorem AnyN.nil (hr : Region.ready .any ops X = []) (h : Next C N G H nx (Q .normal)) : AnyN P ops N C Q X G H nx := fun fuel a w _ hR => by
  cases fuel with
  | zero => exact ⟨hr, h a w hR⟩
  | succ fuel => exact ⟨fun _ => h a w hR, fun i hi => by rw [hr] at hi; cases hi⟩
theorem AnyN.step {L : List Nat} (hr : Region.ready .any ops X = L) (hne : L ≠ []) (h : ∀ i ∈ L, StepN P ops N C Q X G H nx i) : AnyN P ops N C Q X G H nx := fun fuel a w hf hR => by
  cases fuel with
  | zero =>
    exfalso
    cases L with
    | nil => exact hne rfl
    | cons i L =>
      obtain ⟨o, _, _, _, h4, _⟩ := h i (by simp)
      have := Nat.le_of_ble_eq_true h4
      omega
  | succ fuel =>
    refine ⟨fun e => absurd (hr.symm.trans e) hne, fun i hi => ?_⟩
    obtain ⟨o, h1, h2, h3, h4, p, H1, nx1, h5, h6⟩ := h i (by rw [← hr]; exact hi)
    have h4' := Nat.le_of_ble_eq_true h4
    obtain ⟨S, m, hm, hsl⟩ := hR.mem
    unfold wpOp
    simp only [h1]
    rw [if_pos (by simp [Region.wanted, h2])]
    refine .inl (h5.run C S m a w hm rfl (fun t q _ hq => hsl t q hq) _ _ fun v w' S' m' hm' hle hv => ?_)
    refine h6 fuel _ _ (by omega) ⟨by rw [put_defers]; exact hR.defers, by rw [put_size]; exact hR.size, S', m', hm', fun t q hq => ?_⟩
    rw [look_gput] at hq
    by_cases hd : o.dst = some t
    · rw [if_pos hd] at hq; cases hq
      rw [hd]
      have hlt : t < N := by rw [hd] at h3; exact Nat.le_of_ble_eq_true h3
      exact ⟨v, put_self (by rw [hR.size]; exact hlt), hv⟩
    · rw [if_neg hd] at hq
      obtain ⟨u, hu, hr2⟩ := hsl t q hq
      exact ⟨u, (put_at hd).trans hu, hr2.mono hle⟩
theorem StepN.mk {i : Nat} {o : Oper} {p : PV} {H1 : Hp} {nx1 : Nat} (h1 : ops[i]? = some o) (h5 : OpS P o true G H nx p H1 nx1) (h2 : o.guard = none) (h3 : (match o.dst with | some d => Nat.blt d N | none => true) = true) (h4 : Nat.blt ((X.setIfInBounds i true).toList.filter (!·)).length (X.toList.filter (!·)).length = true)
    (h6 : AnyN P ops N C Q (X.setIfInBounds i true) (gput G o.dst p) H1 nx1) : StepN P ops N C Q X G H nx i := ⟨o, h1, h2, h3, h4, p, H1, nx1, h5, h6⟩
theorem AnyN.one (i : Nat) (hr : Region.ready .any ops X = [i]) (h : StepN P ops N C Q X G H nx i) : AnyN P ops N C Q X G H nx := .step hr (by simp) fun j hj => by simp at hj; subst hj; exact h
theorem AnyN.two (i j : Nat) (hr : Region.ready .any ops X = [i, j]) (h : StepN P ops N C Q X G H nx i) (h2 : StepN P ops N C Q X G H nx j) : AnyN P ops N C Q X G H nx := .step hr (by simp) fun k hk => by
  simp at hk; rcases hk with rfl | rfl
  · exact h
  · exact h2
theorem draw_tree {id : Nat} {l : List Oper} (hm : P.follows .mixedOrders = true) (h : AnyN P l.toArray N C Q (Array.replicate l.toArray.size false) G H nx) : Next C N G H nx ((Code.region id l.toArray true).wp P Q) := by
  intro a w hR
  obtain ⟨S, m, hmem, hslots⟩ := hR.mem
  have hle : Le S m w S m { w with drawn := w.drawn + 1 } := ⟨fun _ h => h, fun _ _ => rfl, fun _ _ h => h, fun _ _ h => h⟩
  exact wp_region_any hm (h _ _ _ (by simp) ⟨hR.defers, hR.size, S, m, hmem.drew, fun t q hq => (hslots t q hq).mono hle⟩)
theorem draw_tree2 {id : Nat} {l : List Oper} (G1 : Env) (H1 : Hp) (nx1 : Nat) (hm : P.follows .mixedOrders = true) (h : Next C N G1 H1 nx1 (Q .normal) → AnyN P l.toArray N C Q (Array.replicate l.toArray.size false) G H nx) (hK : Next C N G1 H1 nx1 (Q .normal)) : Next C N G H nx ((Code.region id l.toArray true).wp P Q) := draw_tree hm (h hK)
end
end Go.RT
/- The engine, part 31: rows of slices that their cells own. -/
namespace Go.RT
def ownL (sz : Nat) (irs : List (List (List FV))) : List (List PV) := irs.map fun r => [PV.own sz r]
def fzL (sz : Nat) (irs : List (List (List FV))) : List (List FV) := irs.map fun r => [FV.vals sz r]
theorem renO_own (L : List Nat) (sz : Nat) (irs : List (List (List FV))) : renO L (.refs 1 (ownL sz irs)) = .refs 1 (ownL sz irs) := by
  simp only [renO, ownL, List.map_map]
  congr 1
theorem ltO_own (n sz : Nat) (irs : List (List (List FV))) : ltO n (.refs 1 (ownL sz irs)) := fun r hr => by
  obtain ⟨r0, _, rfl⟩ := List.mem_map.1 hr; rfl
theorem ent_own {L F : List Nat} {H : Hp} {id sz : Nat} {irs : List (List (List FV))} (h1 : Nat.blt id L.length = true) (h2 : F.contains (renI L id) = false) (h3 : hlook H (renI L id) = some (.refs 1 (ownL sz irs))) : Nat.blt id L.length = true ∧ F.contains (renI L id) = false ∧ EntO L F H (renI L id) (.refs 1 (ownL sz irs)) :=
  ent_same h1 h2 (by rw [renO_own]; exact h3) (ltO_own _ _ _)
theorem ownL_set (sz : Nat) (irs : List (List (List FV))) (i : Nat) (r : List (List FV)) : (ownL sz irs).set i [PV.own sz r] = ownL sz (irs.set i r) := List.map_set.symm
theorem ownL_get {sz : Nat} {irs : List (List (List FV))} {i : Nat} {r : List (List FV)} (h : irs[i]? = some r) : (ownL sz irs)[i]? = some [PV.own sz r] := by unfold ownL; rw [List.getElem?_map, h]; rfl
theorem ownL_rep (sz n : Nat) : List.replicate n [PV.own sz []] = ownL sz (List.replicate n []) := by unfold ownL; rw [List.map_replicate]
theorem fzL_get {sz : Nat} {irs : List (List (List FV))} {i : Nat} {r : List (List FV)} (h : irs[i]? = some r) : (fzL sz irs)[i]? = some [FV.vals sz r] := by unfold fzL; rw [List.getElem?_map, h]; rfl
theorem set_get {α : Type} (l : List α) (i : Nat) (x : α) (h : i < l.length) : (l.set i x)[i]? = some x := by rw [List.getElem?_set]; simp [h]
theorem ownL_len (sz : Nat) (irs : List (List (List FV))) : (ownL sz irs).length = irs.length := by simp [ownL]
end Go.RT
namespace Go.RT
theorem own_back {sz : Nat} {irs : List (List (List FV))} {v : Nat} {x y : List PV} {r : List (List FV)} : (((ownL sz irs).set v x).set v y).set v [PV.own sz r] = ownL sz (irs.set v r) := by rw [List.set_set, List.set_set, ownL_set]
theorem fzL_len (sz : Nat) (irs : List (List (List FV))) : (fzL sz irs).length = irs.length := by simp [fzL]
theorem take_all0 {α : Type} {l : List α} {k : Nat} (h : l.length = k) : (l.drop 0).take k = l := by subst h; simp
end Go.RT
/- The engine, part 32: a frozen slice clipped: 's[:len(s):len(s)]'. -/
namespace Go.RT
section
variable {P : Program} {o : Oper} {g : Bool} {G : Env} {x : Operand} {t : TypeId}
theorem op_slice_clip {e : TypeId} {sz by_ h mx : Nat} {z : Value} {rows : List (List FV)} {oh om : Operand} [hd : TyD P t (.slice e)] [hn : TyN P e sz by_ z] (ho : o.op = .slice t x none (some oh) (some om)) (hx : Opd G g x (.fz (.vals sz rows))) (hhi : Bnd G g (some oh) rows.length h) (hmx : Bnd G g (some om) h mx)
    (hb : g = true → h = rows.length ∧ mx = rows.length) : OpP P o g G (.fz (.vals sz rows)) :=
  .of fun S m a w hg ha => by
    have h1 := (hx.rep hg (by simp [ho, Op.operands]) ha).frz
    obtain ⟨rfl, rfl⟩ := hb hg
    have b2 := hhi.val (o := o) (a := a) (w := w) (S := S) (m := m) hg (fun x hx => by simp [ho, Op.operands, hx]) ha
    have b3 := hmx.val (o := o) (a := a) (w := w) (S := S) (m := m) hg (fun x hx => by simp [ho, Op.operands, hx]) ha
    have run : ∀ (ad : Option Addr) (cap : Nat), rows.length ≤ cap → (Instr.sliceAt t (.slice ad rows.length cap) none (some (a.eval oh)) (some (a.eval om))).run P w = .ok (.slice (if rows.length = 0 then ad else ad.map (·.add (0 * sz))) (rows.length - 0) (rows.length - 0)) w := fun ad cap hc => by
      have e1 : (Instr.sliceBounds true rows.length cap none (some (a.eval oh)) (some (a.eval om))).run P w = .ok (0, rows.length, rows.length) w := by
        rcases b2 with ⟨c2, _⟩ | ⟨k2, c2⟩
        · simp at c2
        rcases b3 with ⟨c3, _⟩ | ⟨k3, c3⟩
        · simp at c3
        rw [Option.map_some] at c2 c3
        rw [c2, c3]; simp [Instr.sliceBounds, Instr.sliceBound, asIntOf, hc]
      simp [Instr.sliceAt, Instr.slice, run_underlying hd.h, e1, run_size hn]
    generalize hv : a.eval x = v at h1
    cases h1 with
    | nil =>
      rename_i a0 cap0
      have := run a0 cap0 (Nat.zero_le _)
      simp only [List.length_nil, if_pos rfl] at this
      exact ⟨_, by simp only [execOp, ho, hv, Option.map_some, Option.map_none, Sem.run_bind, this, Result.andThen_ok, Sem.run_pure]; rfl, .fz _ _ (.nil _ _ _)⟩
    | vals b off cap _ _ U hS hcap hsz hU hR =>
      have := run (some ⟨b, off, none⟩) cap hcap
      refine ⟨_, by simp only [execOp, ho, hv, Option.map_some, Option.map_none, Sem.run_bind, this, Result.andThen_ok, Sem.run_pure]; rfl, .fz _ _ ?_⟩
      have e : (if rows.length = 0 then some (⟨b, off, none⟩ : Addr) else some ((⟨b, off, none⟩ : Addr).add (0 * sz))) = some ⟨b, off, none⟩ := by
        split
        · rfl
        · simp [add_none]
      rw [e, Nat.sub_zero]
      exact .vals b off _ sz rows U hS (Nat.le_refl _) hsz hU hR
end
end Go.RT
/- The types and functions of the translation, as the rules ask for them. Written by tab.py. -/
namespace Go.Proofs.Ytdbdajokdipmlaa
open Go Go.RT Go.Proofs
set_option linter.unusedVariables false
theorem mixed : Try.prog.follows .mixedOrders = true := Try.checked.mixed
theorem tyn_of {P : Program} {t : TypeId} {s b : Nat} {z : Value} (h : (P.info? t).map (fun i => (i.size, i.bytes, i.zero)) = some (s, b, some z)) : TyN P t s b z := by
  obtain ⟨i, hi, he⟩ := Option.map_eq_some_iff.1 h
  simp only [Prod.mk.injEq] at he
  exact ⟨i, hi, he.1, he.2.1, he.2.2⟩
instance : TyA Try.prog 1 false := ⟨_, Try.underlying1, rfl⟩
instance : TyN Try.prog 1 1 8 (.nilFunc) := tyn_of (by kernel_rfl)
instance : TyD Try.prog 2 (.int .i64) := ⟨Try.underlying2⟩
instance : TyA Try.prog 2 false := ⟨_, Try.underlying2, rfl⟩
instance : TyN Try.prog 2 1 8 (.int .i64 0) := tyn_of (by kernel_rfl)
instance : TyD Try.prog 3 (.int .i64) := ⟨Try.underlying3⟩
instance : TyA Try.prog 3 false := ⟨_, Try.underlying3, rfl⟩
instance : TyN Try.prog 3 1 8 (.int .i64 0) := tyn_of (by kernel_rfl)
instance : TyD Try.prog 4 (.bool) := ⟨Try.underlying4⟩
instance : TyA Try.prog 4 false := ⟨_, Try.underlying4, rfl⟩
instance : TyN Try.prog 4 1 1 (.bool false) := tyn_of (by kernel_rfl)
instance : TyD Try.prog 5 (.int .u8) := ⟨Try.underlying5⟩
instance : TyA Try.prog 5 false := ⟨_, Try.underlying5, rfl⟩
instance : TyN Try.prog 5 1 1 (.int .u8 0) := tyn_of (by kernel_rfl)
instance : TyD Try.prog 9 (.string) := ⟨Try.underlying9⟩
instance : TyA Try.prog 9 false := ⟨_, Try.underlying9, rfl⟩
instance : TyN Try.prog 9 1 16 (.string ⟨#[]⟩) := tyn_of (by kernel_rfl)
instance : TyD Try.prog 12 (.int .u64) := ⟨Try.underlying12⟩
instance : TyA Try.prog 12 false := ⟨_, Try.underlying12, rfl⟩
instance : TyN Try.prog 12 1 8 (.int .u64 0) := tyn_of (by kernel_rfl)
instance : TyA Try.prog 13 true := ⟨_, Try.underlying13, rfl⟩
instance : TyN Try.prog 13 2 24 (.agg #[.string ⟨#[]⟩, .int .u64 0]) := tyn_of (by kernel_rfl)
instance : TyF Try.prog 13 0 0 9 := ⟨_, _, Try.underlying13, rfl, rfl, rfl⟩
instance : TyF Try.prog 13 1 1 12 := ⟨_, _, Try.underlying13, rfl, rfl, rfl⟩
instance : TyB Try.prog 13 [(0, 1), (1, 1)] := ⟨_, Try.underlying13, fun w => by kernel_rfl⟩
instance : TyD Try.prog 21 (.int .i32) := ⟨Try.underlying21⟩
instance : TyA Try.prog 21 false := ⟨_, Try.underlying21, rfl⟩
instance : TyN Try.prog 21 1 4 (.int .i32 0) := tyn_of (by kernel_rfl)
instance : TyD Try.prog 22 (.slice 34) := ⟨Try.underlying22⟩
instance : TyA Try.prog 22 false := ⟨_, Try.underlying22, rfl⟩
instance : TyN Try.prog 22 1 24 (.slice none 0 0) := tyn_of (by kernel_rfl)
instance : TyA Try.prog 23 true := ⟨_, Try.underlying23, rfl⟩
instance : TyN Try.prog 23 3 40 (.agg #[.int .i64 0, .int .i64 0, .slice none 0 0]) := tyn_of (by kernel_rfl)
instance : TyF Try.prog 23 0 0 3 := ⟨_, _, Try.underlying23, rfl, rfl, rfl⟩
instance : TyF Try.prog 23 1 1 3 := ⟨_, _, Try.underlying23, rfl, rfl, rfl⟩
instance : TyF Try.prog 23 2 2 22 := ⟨_, _, Try.underlying23, rfl, rfl, rfl⟩
instance : TyB Try.prog 23 [(0, 1), (1, 1), (2, 1)] := ⟨_, Try.underlying23, fun w => by kernel_rfl⟩
instance : TyA Try.prog 24 true := ⟨_, Try.underlying24, rfl⟩
instance : TyN Try.prog 24 3 40 (.agg #[.int .i64 0, .int .i64 0, .slice none 0 0]) := tyn_of (by kernel_rfl)
instance : TyF Try.prog 24 0 0 3 := ⟨_, _, Try.underlying24, rfl, rfl, rfl⟩
instance : TyF Try.prog 24 1 1 3 := ⟨_, _, Try.underlying24, rfl, rfl, rfl⟩
instance : TyF Try.prog 24 2 2 22 := ⟨_, _, Try.underlying24, rfl, rfl, rfl⟩
instance : TyB Try.prog 24 [(0, 1), (1, 1), (2, 1)] := ⟨_, Try.underlying24, fun w => by kernel_rfl⟩
instance : TyA Try.prog 25 false := ⟨_, Try.underlying25, rfl⟩
instance : TyN Try.prog 25 1 8 (.nilFunc) := tyn_of (by kernel_rfl)
instance : TyA Try.prog 26 false := ⟨_, Try.underlying26, rfl⟩
instance : TyN Try.prog 26 1 8 (.nilFunc) := tyn_of (by kernel_rfl)
instance : TyA Try.prog 27 false := ⟨_, Try.underlying27, rfl⟩
instance : TyN Try.prog 27 1 8 (.nilFunc) := tyn_of (by kernel_rfl)
instance : TyA Try.prog 28 false := ⟨_, Try.underlying28, rfl⟩
instance : TyN Try.prog 28 1 8 (.nilFunc) := tyn_of (by kernel_rfl)
instance : TyA Try.prog 29 false := ⟨_, Try.underlying29, rfl⟩
instance : TyN Try.prog 29 1 8 (.nilFunc) := tyn_of (by kernel_rfl)
instance : TyA Try.prog 30 false := ⟨_, Try.underlying30, rfl⟩
instance : TyN Try.prog 30 1 8 (.nilFunc) := tyn_of (by kernel_rfl)
instance : TyD Try.prog 31 (.int .i64) := ⟨Try.underlying31⟩
instance : TyA Try.prog 31 false := ⟨_, Try.underlying31, rfl⟩
instance : TyN Try.prog 31 1 8 (.int .i64 0) := tyn_of (by kernel_rfl)
instance : TyA Try.prog 32 false := ⟨_, Try.underlying32, rfl⟩
instance : TyN Try.prog 32 1 8 (.nilFunc) := tyn_of (by kernel_rfl)
instance : TyA Try.prog 33 true := ⟨_, Try.underlying33, rfl⟩
instance : TyN Try.prog 33 3 24 (.agg #[.int .i64 0, .int .i64 0, .int .i64 0]) := tyn_of (by kernel_rfl)
instance : TyF Try.prog 33 0 0 3 := ⟨_, _, Try.underlying33, rfl, rfl, rfl⟩
instance : TyF Try.prog 33 1 1 3 := ⟨_, _, Try.underlying33, rfl, rfl, rfl⟩
instance : TyF Try.prog 33 2 2 3 := ⟨_, _, Try.underlying33, rfl, rfl, rfl⟩
instance : EqS Try.prog 33 3 := ⟨by kernel_rfl, by kernel_rfl, by kernel_rfl, by kernel_rfl⟩
instance : TyB Try.prog 33 [(0, 1), (1, 1), (2, 1)] := ⟨_, Try.underlying33, fun w => by kernel_rfl⟩
instance : TyA Try.prog 34 true := ⟨_, Try.underlying34, rfl⟩
instance : TyN Try.prog 34 3 24 (.agg #[.int .i64 0, .int .i64 0, .int .i64 0]) := tyn_of (by kernel_rfl)
instance : TyF Try.prog 34 0 0 3 := ⟨_, _, Try.underlying34, rfl, rfl, rfl⟩
instance : TyF Try.prog 34 1 1 3 := ⟨_, _, Try.underlying34, rfl, rfl, rfl⟩
instance : TyF Try.prog 34 2 2 3 := ⟨_, _, Try.underlying34, rfl, rfl, rfl⟩
instance : EqS Try.prog 34 3 := ⟨by kernel_rfl, by kernel_rfl, by kernel_rfl, by kernel_rfl⟩
instance : TyB Try.prog 34 [(0, 1), (1, 1), (2, 1)] := ⟨_, Try.underlying34, fun w => by kernel_rfl⟩
instance : TyA Try.prog 35 false := ⟨_, Try.underlying35, rfl⟩
instance : TyN Try.prog 35 1 8 (.nilFunc) := tyn_of (by kernel_rfl)
instance : TyA Try.prog 36 false := ⟨_, Try.underlying36, rfl⟩
instance : TyN Try.prog 36 1 8 (.nilFunc) := tyn_of (by kernel_rfl)
instance : TyA Try.prog 37 false := ⟨_, Try.underlying37, rfl⟩
instance : TyN Try.prog 37 1 8 (.nilFunc) := tyn_of (by kernel_rfl)
instance : TyA Try.prog 38 false := ⟨_, Try.underlying38, rfl⟩
instance : TyN Try.prog 38 1 8 (.nilFunc) := tyn_of (by kernel_rfl)
instance : TyA Try.prog 39 false := ⟨_, Try.underlying39, rfl⟩
instance : TyN Try.prog 39 1 8 (.nilFunc) := tyn_of (by kernel_rfl)
instance : TyA Try.prog 40 false := ⟨_, Try.underlying40, rfl⟩
instance : TyN Try.prog 40 1 8 (.nilFunc) := tyn_of (by kernel_rfl)
instance : TyA Try.prog 42 false := ⟨_, Try.underlying42, rfl⟩
instance : TyN Try.prog 42 1 8 (.nilFunc) := tyn_of (by kernel_rfl)
instance : TyD Try.prog 43 (.slice 4) := ⟨Try.underlying43⟩
instance : TyA Try.prog 43 false := ⟨_, Try.underlying43, rfl⟩
instance : TyN Try.prog 43 1 24 (.slice none 0 0) := tyn_of (by kernel_rfl)
instance : TyA Try.prog 44 false := ⟨_, Try.underlying44, rfl⟩
instance : TyN Try.prog 44 1 8 (.nilFunc) := tyn_of (by kernel_rfl)
instance : TyA Try.prog 45 false := ⟨_, Try.underlying45, rfl⟩
instance : TyN Try.prog 45 1 8 (.nilFunc) := tyn_of (by kernel_rfl)
instance : TyA Try.prog 46 false := ⟨_, Try.underlying46, rfl⟩
instance : TyN Try.prog 46 1 8 (.nilFunc) := tyn_of (by kernel_rfl)
instance : TyA Try.prog 47 false := ⟨_, Try.underlying47, rfl⟩
instance : TyN Try.prog 47 1 8 (.nilFunc) := tyn_of (by kernel_rfl)
instance : TyA Try.prog 48 false := ⟨_, Try.underlying48, rfl⟩
instance : TyN Try.prog 48 1 8 (.nilFunc) := tyn_of (by kernel_rfl)
instance : TyA Try.prog 49 false := ⟨_, Try.underlying49, rfl⟩
instance : TyN Try.prog 49 1 8 (.nilFunc) := tyn_of (by kernel_rfl)
instance : TyA Try.prog 50 false := ⟨_, Try.underlying50, rfl⟩
instance : TyN Try.prog 50 1 8 (.nilFunc) := tyn_of (by kernel_rfl)
instance : TyA Try.prog 51 false := ⟨_, Try.underlying51, rfl⟩
instance : TyN Try.prog 51 1 8 (.nilFunc) := tyn_of (by kernel_rfl)
instance : TyA Try.prog 52 false := ⟨_, Try.underlying52, rfl⟩
instance : TyN Try.prog 52 1 8 (.nilFunc) := tyn_of (by kernel_rfl)
instance : TyD Try.prog 53 (.slice 3) := ⟨Try.underlying53⟩
instance : TyA Try.prog 53 false := ⟨_, Try.underlying53, rfl⟩
instance : TyN Try.prog 53 1 24 (.slice none 0 0) := tyn_of (by kernel_rfl)
instance : TyA Try.prog 54 false := ⟨_, Try.underlying54, rfl⟩
instance : TyN Try.prog 54 1 8 (.nilFunc) := tyn_of (by kernel_rfl)
instance : TyA Try.prog 55 false := ⟨_, Try.underlying55, rfl⟩
instance : TyN Try.prog 55 1 8 (.nilFunc) := tyn_of (by kernel_rfl)
instance : TyA Try.prog 56 false := ⟨_, Try.underlying56, rfl⟩
instance : TyN Try.prog 56 1 8 (.nilFunc) := tyn_of (by kernel_rfl)
instance : TyA Try.prog 57 false := ⟨_, Try.underlying57, rfl⟩
instance : TyN Try.prog 57 1 8 (.nilFunc) := tyn_of (by kernel_rfl)
instance : TyA Try.prog 58 false := ⟨_, Try.underlying58, rfl⟩
instance : TyN Try.prog 58 1 8 (.nilFunc) := tyn_of (by kernel_rfl)
instance : TyA Try.prog 59 false := ⟨_, Try.underlying59, rfl⟩
instance : TyN Try.prog 59 1 8 (.nilFunc) := tyn_of (by kernel_rfl)
instance : TyD Try.prog 60 (.int .u64) := ⟨Try.underlying60⟩
instance : TyA Try.prog 60 false := ⟨_, Try.underlying60, rfl⟩
instance : TyN Try.prog 60 1 8 (.int .u64 0) := tyn_of (by kernel_rfl)
instance : TyA Try.prog 61 false := ⟨_, Try.underlying61, rfl⟩
instance : TyN Try.prog 61 1 8 (.nilFunc) := tyn_of (by kernel_rfl)
instance : TyA Try.prog 62 false := ⟨_, Try.underlying62, rfl⟩
instance : TyN Try.prog 62 1 8 (.nilFunc) := tyn_of (by kernel_rfl)
instance : TyD Try.prog 63 (.int .i64) := ⟨Try.underlying63⟩
instance : TyA Try.prog 63 false := ⟨_, Try.underlying63, rfl⟩
instance : TyN Try.prog 63 1 8 (.int .i64 0) := tyn_of (by kernel_rfl)
instance : TyA Try.prog 65 false := ⟨_, Try.underlying65, rfl⟩
instance : TyN Try.prog 65 1 8 (.nilFunc) := tyn_of (by kernel_rfl)
instance : TyA Try.prog 66 false := ⟨_, Try.underlying66, rfl⟩
instance : TyN Try.prog 66 1 8 (.nilFunc) := tyn_of (by kernel_rfl)
instance : TyA Try.prog 67 false := ⟨_, Try.underlying67, rfl⟩
instance : TyN Try.prog 67 1 8 (.nilFunc) := tyn_of (by kernel_rfl)
instance : TyA Try.prog 69 false := ⟨_, Try.underlying69, rfl⟩
instance : TyN Try.prog 69 1 8 (.nilFunc) := tyn_of (by kernel_rfl)
instance : TyA Try.prog 70 false := ⟨_, Try.underlying70, rfl⟩
instance : TyN Try.prog 70 1 8 (.nilFunc) := tyn_of (by kernel_rfl)
instance : TyD Try.prog 71 (.int .u32) := ⟨Try.underlying71⟩
instance : TyA Try.prog 71 false := ⟨_, Try.underlying71, rfl⟩
instance : TyN Try.prog 71 1 4 (.int .u32 0) := tyn_of (by kernel_rfl)
instance : TyA Try.prog 72 false := ⟨_, Try.underlying72, rfl⟩
instance : TyN Try.prog 72 1 8 (.nilFunc) := tyn_of (by kernel_rfl)
instance : TyD Try.prog 73 (.int .u64) := ⟨Try.underlying73⟩
instance : TyA Try.prog 73 false := ⟨_, Try.underlying73, rfl⟩
instance : TyN Try.prog 73 1 8 (.int .u64 0) := tyn_of (by kernel_rfl)
instance : TyA Try.prog 74 false := ⟨_, Try.underlying74, rfl⟩
instance : TyN Try.prog 74 1 8 (.nilFunc) := tyn_of (by kernel_rfl)
instance : TyD Try.prog 75 (.int .u64) := ⟨Try.underlying75⟩
instance : TyA Try.prog 75 false := ⟨_, Try.underlying75, rfl⟩
instance : TyN Try.prog 75 1 8 (.int .u64 0) := tyn_of (by kernel_rfl)
instance : TyA Try.prog 76 false := ⟨_, Try.underlying76, rfl⟩
instance : TyN Try.prog 76 1 8 (.nilFunc) := tyn_of (by kernel_rfl)
instance : TyA Try.prog 77 false := ⟨_, Try.underlying77, rfl⟩
instance : TyN Try.prog 77 1 8 (.nilFunc) := tyn_of (by kernel_rfl)
instance : TyA Try.prog 78 false := ⟨_, Try.underlying78, rfl⟩
instance : TyN Try.prog 78 1 8 (.nilFunc) := tyn_of (by kernel_rfl)
instance : TyD Try.prog 79 (.pointer 3) := ⟨Try.underlying79⟩
instance : TyA Try.prog 79 false := ⟨_, Try.underlying79, rfl⟩
instance : TyN Try.prog 79 1 8 (.pointer none) := tyn_of (by kernel_rfl)
instance : TyA Try.prog 80 false := ⟨_, Try.underlying80, rfl⟩
instance : TyN Try.prog 80 1 8 (.nilFunc) := tyn_of (by kernel_rfl)
instance : TyA Try.prog 81 false := ⟨_, Try.underlying81, rfl⟩
instance : TyN Try.prog 81 1 8 (.nilFunc) := tyn_of (by kernel_rfl)
instance : TyA Try.prog 82 false := ⟨_, Try.underlying82, rfl⟩
instance : TyN Try.prog 82 1 8 (.nilFunc) := tyn_of (by kernel_rfl)
instance : TyA Try.prog 83 false := ⟨_, Try.underlying83, rfl⟩
instance : TyN Try.prog 83 1 8 (.nilFunc) := tyn_of (by kernel_rfl)
instance : TyA Try.prog 84 false := ⟨_, Try.underlying84, rfl⟩
instance : TyN Try.prog 84 1 8 (.nilFunc) := tyn_of (by kernel_rfl)
instance : TyA Try.prog 85 false := ⟨_, Try.underlying85, rfl⟩
instance : TyN Try.prog 85 1 8 (.nilFunc) := tyn_of (by kernel_rfl)
instance : TyA Try.prog 86 false := ⟨_, Try.underlying86, rfl⟩
instance : TyN Try.prog 86 1 8 (.nilFunc) := tyn_of (by kernel_rfl)
instance : TyD Try.prog 87 (.pointer 75) := ⟨Try.underlying87⟩
instance : TyA Try.prog 87 false := ⟨_, Try.underlying87, rfl⟩
instance : TyN Try.prog 87 1 8 (.pointer none) := tyn_of (by kernel_rfl)
instance : TyA Try.prog 89 false := ⟨_, Try.underlying89, rfl⟩
instance : TyN Try.prog 89 1 8 (.nilFunc) := tyn_of (by kernel_rfl)
instance : TyA Try.prog 90 false := ⟨_, Try.underlying90, rfl⟩
instance : TyN Try.prog 90 1 8 (.nilFunc) := tyn_of (by kernel_rfl)
instance : TyA Try.prog 91 false := ⟨_, Try.underlying91, rfl⟩
instance : TyN Try.prog 91 1 8 (.nilFunc) := tyn_of (by kernel_rfl)
instance : TyA Try.prog 92 false := ⟨_, Try.underlying92, rfl⟩
instance : TyN Try.prog 92 1 8 (.nilFunc) := tyn_of (by kernel_rfl)
instance : TyA Try.prog 93 false := ⟨_, Try.underlying93, rfl⟩
instance : TyN Try.prog 93 1 8 (.nilFunc) := tyn_of (by kernel_rfl)
instance : TyA Try.prog 99 false := ⟨_, Try.underlying99, rfl⟩
instance : TyN Try.prog 99 1 8 (.nilFunc) := tyn_of (by kernel_rfl)
instance : TyA Try.prog 102 false := ⟨_, Try.underlying102, rfl⟩
instance : TyN Try.prog 102 1 8 (.nilFunc) := tyn_of (by kernel_rfl)
instance : TyD Try.prog 103 (.pointer 5) := ⟨Try.underlying103⟩
instance : TyA Try.prog 103 false := ⟨_, Try.underlying103, rfl⟩
instance : TyN Try.prog 103 1 8 (.pointer none) := tyn_of (by kernel_rfl)
instance : FnB Try.prog 2 := ⟨_, Try.func2, by decide +kernel, rfl⟩
instance : FnB Try.prog 3 := ⟨_, Try.func3, by decide +kernel, rfl⟩
instance : FnB Try.prog 4 := ⟨_, Try.func4, by decide +kernel, rfl⟩
instance : FnB Try.prog 5 := ⟨_, Try.func5, by decide +kernel, rfl⟩
instance : FnB Try.prog 6 := ⟨_, Try.func6, by decide +kernel, rfl⟩
instance : FnB Try.prog 7 := ⟨_, Try.func7, by decide +kernel, rfl⟩
instance : FnB Try.prog 8 := ⟨_, Try.func8, by decide +kernel, rfl⟩
instance : FnB Try.prog 9 := ⟨_, Try.func9, by decide +kernel, rfl⟩
instance : FnB Try.prog 10 := ⟨_, Try.func10, by decide +kernel, rfl⟩
instance : FnB Try.prog 11 := ⟨_, Try.func11, by decide +kernel, rfl⟩
instance : FnB Try.prog 12 := ⟨_, Try.func12, by decide +kernel, rfl⟩
instance : FnB Try.prog 13 := ⟨_, Try.func13, by decide +kernel, rfl⟩
instance : FnB Try.prog 14 := ⟨_, Try.func14, by decide +kernel, rfl⟩
instance : FnB Try.prog 15 := ⟨_, Try.func15, by decide +kernel, rfl⟩
instance : FnB Try.prog 16 := ⟨_, Try.func16, by decide +kernel, rfl⟩
instance : FnB Try.prog 17 := ⟨_, Try.func17, by decide +kernel, rfl⟩
instance : FnB Try.prog 18 := ⟨_, Try.func18, by decide +kernel, rfl⟩
instance : FnB Try.prog 19 := ⟨_, Try.func19, by decide +kernel, rfl⟩
instance : FnB Try.prog 20 := ⟨_, Try.func20, by decide +kernel, rfl⟩
instance : FnB Try.prog 21 := ⟨_, Try.func21, by decide +kernel, rfl⟩
instance : FnB Try.prog 22 := ⟨_, Try.func22, by decide +kernel, rfl⟩
instance : FnB Try.prog 23 := ⟨_, Try.func23, by decide +kernel, rfl⟩
instance : FnB Try.prog 24 := ⟨_, Try.func24, by decide +kernel, rfl⟩
instance : FnB Try.prog 25 := ⟨_, Try.func25, by decide +kernel, rfl⟩
instance : FnB Try.prog 26 := ⟨_, Try.func26, by decide +kernel, rfl⟩
instance : FnB Try.prog 27 := ⟨_, Try.func27, by decide +kernel, rfl⟩
instance : FnB Try.prog 28 := ⟨_, Try.func28, by decide +kernel, rfl⟩
instance : FnB Try.prog 29 := ⟨_, Try.func29, by decide +kernel, rfl⟩
instance : FnB Try.prog 30 := ⟨_, Try.func30, by decide +kernel, rfl⟩
instance : FnB Try.prog 31 := ⟨_, Try.func31, by decide +kernel, rfl⟩
instance : FnB Try.prog 32 := ⟨_, Try.func32, by decide +kernel, rfl⟩
instance : FnB Try.prog 33 := ⟨_, Try.func33, by decide +kernel, rfl⟩
instance : FnB Try.prog 34 := ⟨_, Try.func34, by decide +kernel, rfl⟩
instance : FnB Try.prog 35 := ⟨_, Try.func35, by decide +kernel, rfl⟩
instance : FnB Try.prog 36 := ⟨_, Try.func36, by decide +kernel, rfl⟩
instance : FnB Try.prog 37 := ⟨_, Try.func37, by decide +kernel, rfl⟩
instance : FnB Try.prog 38 := ⟨_, Try.func38, by decide +kernel, rfl⟩
instance : FnB Try.prog 39 := ⟨_, Try.func39, by decide +kernel, rfl⟩
instance : FnB Try.prog 40 := ⟨_, Try.func40, by decide +kernel, rfl⟩
instance : FnB Try.prog 41 := ⟨_, Try.func41, by decide +kernel, rfl⟩
instance : FnB Try.prog 42 := ⟨_, Try.func42, by decide +kernel, rfl⟩
instance : FnB Try.prog 43 := ⟨_, Try.func43, by decide +kernel, rfl⟩
instance : FnB Try.prog 44 := ⟨_, Try.func44, by decide +kernel, rfl⟩
instance : FnB Try.prog 45 := ⟨_, Try.func45, by decide +kernel, rfl⟩
instance : FnB Try.prog 46 := ⟨_, Try.func46, by decide +kernel, rfl⟩
instance : FnB Try.prog 47 := ⟨_, Try.func47, by decide +kernel, rfl⟩
instance : FnB Try.prog 48 := ⟨_, Try.func48, by decide +kernel, rfl⟩
instance : FnB Try.prog 49 := ⟨_, Try.func49, by decide +kernel, rfl⟩
instance : FnB Try.prog 50 := ⟨_, Try.func50, by decide +kernel, rfl⟩
instance : FnB Try.prog 51 := ⟨_, Try.func51, by decide +kernel, rfl⟩
instance : FnB Try.prog 52 := ⟨_, Try.func52, by decide +kernel, rfl⟩
instance : FnB Try.prog 53 := ⟨_, Try.func53, by decide +kernel, rfl⟩
instance : FnB Try.prog 54 := ⟨_, Try.func54, by decide +kernel, rfl⟩
instance : FnB Try.prog 55 := ⟨_, Try.func55, by decide +kernel, rfl⟩
instance : FnB Try.prog 56 := ⟨_, Try.func56, by decide +kernel, rfl⟩
instance : FnB Try.prog 57 := ⟨_, Try.func57, by decide +kernel, rfl⟩
instance : FnB Try.prog 58 := ⟨_, Try.func58, by decide +kernel, rfl⟩
instance : FnB Try.prog 59 := ⟨_, Try.func59, by decide +kernel, rfl⟩
instance : FnB Try.prog 60 := ⟨_, Try.func60, by decide +kernel, rfl⟩
instance : FnB Try.prog 61 := ⟨_, Try.func61, by decide +kernel, rfl⟩
instance : FnB Try.prog 62 := ⟨_, Try.func62, by decide +kernel, rfl⟩
instance : FnB Try.prog 63 := ⟨_, Try.func63, by decide +kernel, rfl⟩
instance : FnB Try.prog 64 := ⟨_, Try.func64, by decide +kernel, rfl⟩
instance : FnB Try.prog 65 := ⟨_, Try.func65, by decide +kernel, rfl⟩
instance : FnB Try.prog 66 := ⟨_, Try.func66, by decide +kernel, rfl⟩
instance : FnB Try.prog 67 := ⟨_, Try.func67, by decide +kernel, rfl⟩
instance : FnB Try.prog 68 := ⟨_, Try.func68, by decide +kernel, rfl⟩
instance : FnB Try.prog 69 := ⟨_, Try.func69, by decide +kernel, rfl⟩
instance : FnB Try.prog 70 := ⟨_, Try.func70, by decide +kernel, rfl⟩
instance : FnB Try.prog 71 := ⟨_, Try.func71, by decide +kernel, rfl⟩
instance : FnB Try.prog 72 := ⟨_, Try.func72, by decide +kernel, rfl⟩
instance : FnB Try.prog 73 := ⟨_, Try.func73, by decide +kernel, rfl⟩
instance : FnB Try.prog 74 := ⟨_, Try.func74, by decide +kernel, rfl⟩
end Go.Proofs.Ytdbdajokdipmlaa
/- Graphs, their edges, and what the functions on them compute. No program in sight. -/
namespace Go.Pl
open Go.RT
set_option linter.all false
def cmpI (a b : Int) : Int := if a < b then -1 else if a > b then 1 else 0
instance (k : IntKind) (n : Int) : Decidable (inr k n) := by cases k <;> unfold inr <;> infer_instance
structure Edg where
  f : Int
  t : Int
  c : Int
  deriving DecidableEq
structure Gr where
  r : Int
  n : Int
  es : List Edg
  deriving DecidableEq
def encE (e : Edg) : List FV := [If .i64 e.f, If .i64 e.t, If .i64 e.c]
abbrev VE (l : List Edg) : FV := .vals 3 (l.map encE)
def encG (g : Gr) : List FV := [If .i64 g.r, If .i64 g.n, VE g.es]
def encN (x : Int) : List FV := [If .i64 x]
abbrev VI (l : List Int) : FV := .vals 1 (l.map encN)
def encB (x : Bool) : List FV := [Bf x]
abbrev VB (l : List Bool) : FV := .vals 1 (l.map encB)
def okE (e : Edg) : Prop := inr .i64 e.f ∧ inr .i64 e.t ∧ inr .i64 e.c
def okEs (l : List Edg) : Prop := ∀ e ∈ l, okE e
def okG (g : Gr) : Prop := inr .i64 g.r ∧ inr .i64 g.n ∧ okEs g.es
theorem eqFs_encE (a b : Edg) : eqFs (encE a) (encE b) = decide (a = b) := by
  cases a; cases b
  simp [encE, eqFs, Bool.decide_and, and_assoc]
def ordE (a b : Edg) : Int := if cmpI a.f b.f ≠ 0 then cmpI a.f b.f else cmpI a.t b.t
def befB (a b : Edg) : Bool := decide (a.f < b.f) || decide (a.f = b.f) && decide (a.t < b.t)
theorem ordE_ge (a b : Edg) : decide (0 ≤ ordE a b) = !befB a b := by
  rw [Bool.eq_iff_iff]
  unfold ordE cmpI befB
  simp only [decide_eq_true_eq, Bool.not_eq_true', Bool.or_eq_false_iff, decide_eq_false_iff_not, Bool.and_eq_false_iff]
  by_cases h1 : a.f < b.f
  · simp [h1]
  · by_cases h2 : a.f > b.f
    · have : ¬ a.f = b.f := by omega
      simp [h1, h2, this]
    · have : a.f = b.f := by omega
      simp [this]
      by_cases h3 : a.t < b.t
      · simp [h3]
      · by_cases h4 : a.t > b.t <;> simp [h3, h4] <;> omega
def szOk (g : Gr) : Prop := 0 ≤ g.r ∧ 0 ≤ g.n ∧ g.r + g.n ≤ 128
def sizeI (g : Gr) : Int := if g.r < 0 ∨ g.n < 0 then 5 else if g.r > 128 ∨ g.n > 128 ∨ g.r + g.n > 128 ∨ 1024 < g.es.length then 4 else 0
def nodeB (g : Gr) (x : Int) : Bool := decide (0 ≤ x) && decide (x < g.r + g.n)
def alwI (g : Gr) (e : Edg) : Int := if nodeB g e.f = false ∨ nodeB g e.t = false then 5 else
  if e.f = e.t ∨ (g.r ≤ e.f ∧ g.r ≤ e.t) ∨ (g.r ≤ e.f ∧ e.c ≠ 0) ∨ (e.f < g.r ∧ (e.c < 1 ∨ 65535 < e.c)) then 1 else 0
theorem sizeI_ok {g : Gr} (h : sizeI g = 0) : szOk g ∧ g.es.length ≤ 1024 := by
  unfold sizeI at h
  by_cases h1 : g.r < 0 ∨ g.n < 0
  · rw [if_pos h1] at h; cases h
  · rw [if_neg h1] at h
    by_cases h2 : g.r > 128 ∨ g.n > 128 ∨ g.r + g.n > 128 ∨ 1024 < g.es.length
    · rw [if_pos h2] at h; cases h
    · exact ⟨⟨by omega, by omega, by omega⟩, by omega⟩
def badP : Option Edg → Edg → Bool
  | some q, e => !befB q e
  | none, _ => false
def chkL (g : Gr) : Option Edg → List Edg → Int
  | _, [] => 0
  | p, e :: l => if alwI g e ≠ 0 then alwI g e else if badP p e = true then 16 else chkL g (some e) l
def checkI (g : Gr) : Int := if sizeI g ≠ 0 then sizeI g else chkL g none g.es
def prevO (l : List Edg) (i : Nat) : Option Edg := if i = 0 then none else l[i - 1]?
theorem prevO_succ {l : List Edg} {i : Nat} (h : i < l.length) : prevO l (i + 1) = some l[i] := by simp [prevO, h]
/-- one round of the check -/
theorem chk_step {g : Gr} {l : List Edg} {i : Nat} (h : i < l.length) : chkL g (prevO l i) (l.drop i) = if alwI g l[i] ≠ 0 then alwI g l[i] else if badP (prevO l i) l[i] = true then 16 else chkL g (prevO l (i + 1)) (l.drop (i + 1)) := by
  rw [List.drop_eq_getElem_cons h, prevO_succ h]; rfl
theorem row_at' {α : Type} (f : α → List FV) (l : List α) (i : Nat) (h : i < l.length) : (l.map f)[i]? = some (f l[i]) := by simp [h]
theorem take_len_eq' {α : Type} {l : List α} {i : Nat} (h : i = l.length) : l.take i = l := by subst h; exact List.take_length
end Go.Pl
namespace Go.Proofs.Ytdbdajokdipmlaa
open Go Go.RT Go.Proofs Go.Pl
set_option linter.all false
set_option maxRecDepth 20000
theorem nan_c (a : Int) : Pure Try.prog 38 [If .i64 a] (Bf false) := by
  rw [show (false) = decide (a ≠ a) by simp]
  refine Meets.intro Try.func38 rfl (Nat.le_of_ble_eq_true rfl) fun C hC => ?_
  simp only [List.map, argEnv, Nat.reduceAdd]
  refine nK ?_
  refine s_reg rfl ?_
  first | refine Run.pure (dd := some 2) rfl rfl (op_assign rfl (Opd.const _)) ?_ | refine Run.pure (dd := some 2) rfl rfl (op_junk (.inr rfl)) ?_
  refine Run.nil (FinR.mk ?_)
  refine nK ?_
  refine s_reg rfl ?_
  first | refine Run.pure (dd := some 3) rfl rfl (op_move rfl (Opd.tmp _ _ rfl)) ?_ | refine Run.pure (dd := some 3) rfl rfl (op_junk (.inl rfl)) ?_
  first | refine Run.pure (dd := some 4) rfl rfl (op_move rfl (Opd.tmp _ _ rfl)) ?_ | refine Run.pure (dd := some 4) rfl rfl (op_junk (.inl rfl)) ?_
  refine Run.pure (dd := some 5) rfl rfl (op_neq rfl (Opd.tmp _ _ rfl) (Opd.tmp _ _ rfl)) ?_
  first | refine Run.pure (dd := some 2) rfl rfl (op_assign rfl (Opd.tmp _ _ rfl)) ?_ | refine Run.pure (dd := some 2) rfl rfl (op_junk (.inr rfl)) ?_
  refine Run.nil (FinR.mk ?_)
  refine nK ?_
  (first | exact s_o1 hC rfl tV | exact s_o2 hC rfl tV tV | exact s_o3 hC rfl tV tV tV | exact s_out0 hC rfl | exact s_outO hC rfl rfl rfl)
theorem cmp_c (a b : Int) : Pure Try.prog 27 [If .i64 a, If .i64 b] (If .i64 (cmpI a b)) := by
  refine Meets.intro Try.func27 rfl (Nat.le_of_ble_eq_true rfl) fun C hC => ?_
  simp only [List.map, argEnv, Nat.reduceAdd]
  refine nK ?_
  refine s_reg rfl ?_
  first | refine Run.pure (dd := some 4) rfl rfl (op_assign rfl (Opd.const _)) ?_ | refine Run.pure (dd := some 4) rfl rfl (op_junk (.inr rfl)) ?_
  refine Run.nil (FinR.mk ?_)
  refine nK ?_
  refine s_reg rfl ?_
  first | refine Run.pure (dd := some 7) rfl rfl (op_move rfl (Opd.tmp _ _ rfl)) ?_ | refine Run.pure (dd := some 7) rfl rfl (op_junk (.inl rfl)) ?_
  refine Run.pure (dd := some 8) rfl rfl (op_call_pure (fun _ => nan_c _) rfl (Opd.func _) (Opds.cons _ _ _ _ (Opd.tmp _ _ rfl) Opds.nil)) ?_
  first | refine Run.pure (dd := some 5) rfl rfl (op_assign rfl (Opd.tmp _ _ rfl)) ?_ | refine Run.pure (dd := some 5) rfl rfl (op_junk (.inr rfl)) ?_
  refine Run.nil (FinR.mk ?_)
  refine nK ?_
  refine s_reg rfl ?_
  first | refine Run.pure (dd := some 9) rfl rfl (op_move rfl (Opd.tmp _ _ rfl)) ?_ | refine Run.pure (dd := some 9) rfl rfl (op_junk (.inl rfl)) ?_
  refine Run.pure (dd := some 10) rfl rfl (op_call_pure (fun _ => nan_c _) rfl (Opd.func _) (Opds.cons _ _ _ _ (Opd.tmp _ _ rfl) Opds.nil)) ?_
  first | refine Run.pure (dd := some 6) rfl rfl (op_assign rfl (Opd.tmp _ _ rfl)) ?_ | refine Run.pure (dd := some 6) rfl rfl (op_junk (.inr rfl)) ?_
  refine Run.nil (FinR.mk ?_)
  refine nK ?_
  refine s_reg rfl ?_
  first | refine Run.pure (dd := some 11) rfl rfl (op_move rfl (Opd.tmp _ _ rfl)) ?_ | refine Run.pure (dd := some 11) rfl rfl (op_junk (.inl rfl)) ?_
  refine Run.nil (FinR.mk ?_)
  refine nK ?_
  refine n_cond _ rfl (fun hb => ?_) (fun hb => ?_)
  · cases hb
  · refine nK ?_
    refine s_reg rfl ?_
    first | refine Run.pure (dd := some 13) rfl rfl (op_move rfl (Opd.tmp _ _ rfl)) ?_ | refine Run.pure (dd := some 13) rfl rfl (op_junk (.inl rfl)) ?_
    refine Run.nil (FinR.mk ?_)
    refine nK ?_
    refine n_cond _ rfl (fun hb => ?_) (fun hb => ?_)
    · cases hb
    · unfold cmpI
      refine nK ?_
      refine s_reg rfl ?_
      first | refine Run.pure (dd := some 14) rfl rfl (op_move rfl (Opd.tmp _ _ rfl)) ?_ | refine Run.pure (dd := some 14) rfl rfl (op_junk (.inl rfl)) ?_
      first | refine Run.pure (dd := some 15) rfl rfl (op_move rfl (Opd.tmp _ _ rfl)) ?_ | refine Run.pure (dd := some 15) rfl rfl (op_junk (.inl rfl)) ?_
      refine Run.pure (dd := some 16) rfl rfl (op_lss rfl (Opd.tmp _ _ rfl) (Opd.tmp _ _ rfl)) ?_
      refine Run.nil (FinR.mk ?_)
      refine nK ?_
      refine n_cond _ rfl (fun hb => ?_) (fun hb => ?_)
      · rw [if_pos (by simpa using hb)]
        refine nK ?_
        refine s_reg rfl ?_
        first | refine Run.pure (dd := some 4) rfl rfl (op_assign rfl (Opd.const _)) ?_ | refine Run.pure (dd := some 4) rfl rfl (op_junk (.inr rfl)) ?_
        refine Run.nil (FinR.mk ?_)
        refine nK ?_
        (first | exact s_o1 hC rfl tV | exact s_o2 hC rfl tV tV | exact s_o3 hC rfl tV tV tV | exact s_out0 hC rfl | exact s_outO hC rfl rfl rfl)
      · rw [if_neg (by simpa using hb)]
        refine nK ?_
        refine s_reg rfl ?_
        first | refine Run.pure (dd := some 17) rfl rfl (op_move rfl (Opd.tmp _ _ rfl)) ?_ | refine Run.pure (dd := some 17) rfl rfl (op_junk (.inl rfl)) ?_
        first | refine Run.pure (dd := some 18) rfl rfl (op_move rfl (Opd.tmp _ _ rfl)) ?_ | refine Run.pure (dd := some 18) rfl rfl (op_junk (.inl rfl)) ?_
        refine Run.pure (dd := some 19) rfl rfl (op_gtr rfl (Opd.tmp _ _ rfl) (Opd.tmp _ _ rfl)) ?_
        refine Run.nil (FinR.mk ?_)
        refine nK ?_
        refine n_cond _ rfl (fun hb => ?_) (fun hb => ?_)
        · rw [if_pos (by simpa using hb)]
          refine nK ?_
          refine s_reg rfl ?_
          first | refine Run.pure (dd := some 4) rfl rfl (op_assign rfl (Opd.const _)) ?_ | refine Run.pure (dd := some 4) rfl rfl (op_junk (.inr rfl)) ?_
          refine Run.nil (FinR.mk ?_)
          refine nK ?_
          (first | exact s_o1 hC rfl tV | exact s_o2 hC rfl tV tV | exact s_o3 hC rfl tV tV tV | exact s_out0 hC rfl | exact s_outO hC rfl rfl rfl)
        · rw [if_neg (by simpa using hb)]
          refine nK ?_
          refine s_reg rfl ?_
          first | refine Run.pure (dd := some 4) rfl rfl (op_assign rfl (Opd.const _)) ?_ | refine Run.pure (dd := some 4) rfl rfl (op_junk (.inr rfl)) ?_
          refine Run.nil (FinR.mk ?_)
          refine nK ?_
          (first | exact s_o1 hC rfl tV | exact s_o2 hC rfl tV tV | exact s_o3 hC rfl tV tV tV | exact s_out0 hC rfl | exact s_outO hC rfl rfl rfl)
def orI : List Int → Int
  | [] => 0
  | x :: l => if x ≠ 0 then x else orI l
theorem or_c (l : List Int) (hn : l.length ≤ 1000000) : Pure Try.prog 26 [VI l] (If .i64 (orI l)) := by
  refine Meets.intro Try.func26 rfl (Nat.le_of_ble_eq_true rfl) fun C hC => ?_
  simp only [List.map, argEnv, Nat.reduceAdd]
  refine nK ?_
  refine s_reg rfl ?_
  first | refine Run.pure (dd := some 2) rfl rfl (op_assign rfl (Opd.const _)) ?_ | refine Run.pure (dd := some 2) rfl rfl (op_junk (.inr rfl)) ?_
  refine Run.nil (FinR.mk ?_)
  refine nK ?_
  refine s_reg rfl ?_
  first | refine Run.pure (dd := some 3) rfl rfl (op_assign rfl (Opd.const _)) ?_ | refine Run.pure (dd := some 3) rfl rfl (op_junk (.inr rfl)) ?_
  refine Run.nil (FinR.mk ?_)
  refine nK ?_
  refine s_reg rfl ?_
  first | refine Run.pure (dd := some 6) rfl rfl (op_move rfl (Opd.tmp _ _ rfl)) ?_ | refine Run.pure (dd := some 6) rfl rfl (op_junk (.inl rfl)) ?_
  first | refine Run.pure (dd := some 7) rfl rfl (op_len_fz rfl (by first | exact Opd.tmp _ _ rfl | exact Opd.nil _ _ (Opd.tmp _ _ rfl)) (by first | exact List.length_map _ | rfl)) ?_ | refine Run.pure (dd := some 7) rfl rfl (op_len_sl rfl (Opd.tmp _ _ rfl)) ?_
  first | refine Run.pure (dd := some 8) rfl rfl (op_move rfl (Opd.const _)) ?_ | refine Run.pure (dd := some 8) rfl rfl (op_junk (.inl rfl)) ?_
  refine Run.nil (FinR.mk ?_)
  refine nK ?_
  refine n_loop (ι := Nat) (fun i => ([(3, IV .i64 0), (6, .fz (VI l)), (7, IV .i64 l.length), (8, IV .i64 i)], [], 0)) (fun i => i ≤ l.length ∧ orI (l.drop i) = orI l) (fun i => l.length - i) 0 ⟨Nat.zero_le _, rfl⟩ ?_ ?_
  · refine Next.weak [] [] (by rfl) (keeps0 hC _) (by repeat (first | exact trivial | refine ⟨⟨_, rfl, .inl ⟨rfl, rfl⟩⟩, ?_⟩)) (by repeat (first | exact trivial | refine ⟨ent_same rfl rfl rfl tL, ?_⟩ | refine ⟨ent_same rfl rfl (rfEq rfl tU) tL, ?_⟩ | refine ⟨ent_same rfl rfl (flEq rfl (by first | (simp; done) | (simp; omega) | (simp [encP]; done) | simp [maxC, minC])) trivial, ?_⟩)) (fun _ h => by simp at h) rel_intro
  · intro i ⟨hi, ho⟩ K hK
    refine nK ?_
    refine s_reg rfl ?_
    refine Run.pure (dd := some 9) rfl rfl (op_lss rfl (Opd.tmp _ _ rfl) (Opd.tmp _ _ rfl)) ?_
    refine Run.nil (FinR.mk ?_)
    refine nK ?_
    refine n_cond _ rfl (fun hb => ?_) (fun hb => ?_)
    · have hlt : i < l.length := by simp at hb; omega
      have hr1 := row_at' encN l i hlt
      rw [List.drop_eq_getElem_cons hlt] at ho
      simp only [orI] at ho
      have hK1 := fun h => hK (i + 1) ⟨by omega, h⟩ (by omega)
      generalize l[i] = x at *
      refine nK ?_
      refine s_reg rfl ?_
      first | refine Run.pure (dd := some 10) rfl rfl (op_idx_sl0 _ rfl (Opd.tmp _ _ rfl) (Opd.tmp _ _ rfl) tD) ?_ | refine Run.pure (dd := some 10) rfl rfl (op_idx_fz _ rfl (Opd.tmp _ _ rfl) (Opd.tmp _ _ rfl) tF) ?_
      first | refine Run.load (dd := some 11) rfl rfl (op_load1_flat rfl (Opd.tmp _ _ rfl) tH rfl) ?_ | refine Run.pure (dd := some 11) rfl rfl (op_load1_fz rfl (Opd.tmp _ _ rfl) rfl) ?_ | refine Run.load (dd := some 11) rfl rfl (op_load1_refs rfl (Opd.tmp _ _ rfl) tH rfl) ?_
      first | refine Run.pure (dd := some 5) rfl rfl (op_assign rfl (Opd.tmp _ _ rfl)) ?_ | refine Run.pure (dd := some 5) rfl rfl (op_junk (.inr rfl)) ?_
      refine Run.nil (FinR.mk ?_)
      refine nK ?_
      refine s_reg rfl ?_
      first | refine Run.pure (dd := some 12) rfl rfl (op_move rfl (Opd.tmp _ _ rfl)) ?_ | refine Run.pure (dd := some 12) rfl rfl (op_junk (.inl rfl)) ?_
      first | refine Run.pure (dd := some 13) rfl rfl (op_move rfl (Opd.tmp _ _ rfl)) ?_ | refine Run.pure (dd := some 13) rfl rfl (op_junk (.inl rfl)) ?_
      refine Run.pure (dd := some 14) rfl rfl (op_neq rfl (Opd.tmp _ _ rfl) (Opd.tmp _ _ rfl)) ?_
      refine Run.nil (FinR.mk ?_)
      refine nK ?_
      refine n_cond _ rfl (fun hb => ?_) (fun hb => ?_)
      · rw [if_pos (by simpa using hb)] at ho
        rw [← ho]
        refine nK ?_
        refine s_reg rfl ?_
        first | refine Run.pure (dd := some 15) rfl rfl (op_move rfl (Opd.tmp _ _ rfl)) ?_ | refine Run.pure (dd := some 15) rfl rfl (op_junk (.inl rfl)) ?_
        first | refine Run.pure (dd := some 2) rfl rfl (op_assign rfl (Opd.tmp _ _ rfl)) ?_ | refine Run.pure (dd := some 2) rfl rfl (op_junk (.inr rfl)) ?_
        refine Run.nil (FinR.mk ?_)
        refine nK ?_
        (first | exact s_o1 hC rfl tV | exact s_o2 hC rfl tV tV | exact s_o3 hC rfl tV tV tV | exact s_out0 hC rfl | exact s_outO hC rfl rfl rfl)
      · rw [if_neg (by simpa using hb)] at ho
        refine nK ?_
        refine s_reg rfl ?_
        refine Run.pure (dd := some 16) rfl rfl (op_add rfl (Opd.tmp _ _ rfl) (Opd.const _) tI) ?_
        first | refine Run.pure (dd := some 8) rfl rfl (op_move rfl (Opd.tmp _ _ rfl)) ?_ | refine Run.pure (dd := some 8) rfl rfl (op_junk (.inl rfl)) ?_
        refine Run.nil (FinR.mk ?_)
        refine nK ?_
        refine Next.weak [] [] (by rfl) (keeps0 hC _) (by repeat (first | exact trivial | refine ⟨⟨_, rfl, .inl ⟨rfl, rfl⟩⟩, ?_⟩)) (by repeat (first | exact trivial | refine ⟨ent_same rfl rfl rfl tL, ?_⟩ | refine ⟨ent_same rfl rfl (rfEq rfl tU) tL, ?_⟩ | refine ⟨ent_same rfl rfl (flEq rfl (by first | (simp; done) | (simp; omega) | (simp [encP]; done) | simp [maxC, minC])) trivial, ?_⟩)) (fun _ h => by simp at h) (hK1 ho)
    · have hie : i = l.length := by simp at hb; omega
      rw [hie, List.drop_length] at ho
      rw [← ho]
      refine nK ?_
      refine s_reg rfl ?_
      first | refine Run.pure (dd := some 17) rfl rfl (op_move rfl (Opd.tmp _ _ rfl)) ?_ | refine Run.pure (dd := some 17) rfl rfl (op_junk (.inl rfl)) ?_
      first | refine Run.pure (dd := some 2) rfl rfl (op_assign rfl (Opd.tmp _ _ rfl)) ?_ | refine Run.pure (dd := some 2) rfl rfl (op_junk (.inr rfl)) ?_
      refine Run.nil (FinR.mk ?_)
      refine nK ?_
      (first | exact s_o1 hC rfl tV | exact s_o2 hC rfl tV tV | exact s_o3 hC rfl tV tV tV | exact s_out0 hC rfl | exact s_outO hC rfl rfl rfl)
theorem order_c (a b : Edg) : Pure Try.prog 16 [.agg (encE a), .agg (encE b)] (If .i64 (ordE a b)) := by
  have e : ordE a b = orI [cmpI a.f b.f, cmpI a.t b.t] := by
    unfold ordE orI
    simp only [orI]
    by_cases h : cmpI a.f b.f = 0
    · by_cases h2 : cmpI a.t b.t = 0 <;> simp [h, h2]
    · simp [h]
  have ho := or_c [cmpI a.f b.f, cmpI a.t b.t] (by simp)
  rw [← e] at ho
  refine Meets.intro Try.func16 rfl (Nat.le_of_ble_eq_true rfl) fun C hC => ?_
  simp only [List.map, argEnv, Nat.reduceAdd]
  refine nK ?_
  refine s_reg rfl ?_
  first | refine Run.eff (dd := some 2) rfl rfl (op_box_flat rfl (Opd.tmp _ _ rfl) tC rfl) ?_ | refine Run.eff (dd := some 2) rfl rfl (op_box_refs rfl (Opd.tmp _ _ rfl) tP rfl) ?_
  first | refine Run.eff (dd := some 3) rfl rfl (op_box_flat rfl (Opd.tmp _ _ rfl) tC rfl) ?_ | refine Run.eff (dd := some 3) rfl rfl (op_box_refs rfl (Opd.tmp _ _ rfl) tP rfl) ?_
  first | refine Run.pure (dd := some 4) rfl rfl (op_assign rfl (Opd.const _)) ?_ | refine Run.pure (dd := some 4) rfl rfl (op_junk (.inr rfl)) ?_
  refine Run.nil (FinR.mk ?_)
  refine nK ?_
  refine s_draw mixed ?_
  first | refine Run.pure (dd := some 5) rfl rfl (op_fld_ptr (by decide) rfl (Opd.tmp _ _ rfl)) ?_ | refine Run.pure (dd := some 5) rfl rfl (op_fld_fz (by decide) rfl (Opd.tmp _ _ rfl) tR) ?_
  first | refine Run.load (dd := some 6) rfl rfl (op_load1_flat rfl (Opd.tmp _ _ rfl) tH rfl) ?_ | refine Run.pure (dd := some 6) rfl rfl (op_load1_fz rfl (Opd.tmp _ _ rfl) rfl) ?_ | refine Run.load (dd := some 6) rfl rfl (op_load1_refs rfl (Opd.tmp _ _ rfl) tH rfl) ?_
  first | refine Run.pure (dd := some 7) rfl rfl (op_fld_ptr (by decide) rfl (Opd.tmp _ _ rfl)) ?_ | refine Run.pure (dd := some 7) rfl rfl (op_fld_fz (by decide) rfl (Opd.tmp _ _ rfl) tR) ?_
  first | refine Run.load (dd := some 8) rfl rfl (op_load1_flat rfl (Opd.tmp _ _ rfl) tH rfl) ?_ | refine Run.pure (dd := some 8) rfl rfl (op_load1_fz rfl (Opd.tmp _ _ rfl) rfl) ?_ | refine Run.load (dd := some 8) rfl rfl (op_load1_refs rfl (Opd.tmp _ _ rfl) tH rfl) ?_
  refine Run.pure (dd := some 9) rfl rfl (op_call_pure (fun _ => cmp_c _ _) rfl (Opd.func _) (Opds.cons _ _ _ _ (Opd.tmp _ _ rfl) (Opds.cons _ _ _ _ (Opd.tmp _ _ rfl) Opds.nil))) ?_
  first | refine Run.pure (dd := some 10) rfl rfl (op_fld_ptr (by decide) rfl (Opd.tmp _ _ rfl)) ?_ | refine Run.pure (dd := some 10) rfl rfl (op_fld_fz (by decide) rfl (Opd.tmp _ _ rfl) tR) ?_
  first | refine Run.load (dd := some 11) rfl rfl (op_load1_flat rfl (Opd.tmp _ _ rfl) tH rfl) ?_ | refine Run.pure (dd := some 11) rfl rfl (op_load1_fz rfl (Opd.tmp _ _ rfl) rfl) ?_ | refine Run.load (dd := some 11) rfl rfl (op_load1_refs rfl (Opd.tmp _ _ rfl) tH rfl) ?_
  first | refine Run.pure (dd := some 12) rfl rfl (op_fld_ptr (by decide) rfl (Opd.tmp _ _ rfl)) ?_ | refine Run.pure (dd := some 12) rfl rfl (op_fld_fz (by decide) rfl (Opd.tmp _ _ rfl) tR) ?_
  first | refine Run.load (dd := some 13) rfl rfl (op_load1_flat rfl (Opd.tmp _ _ rfl) tH rfl) ?_ | refine Run.pure (dd := some 13) rfl rfl (op_load1_fz rfl (Opd.tmp _ _ rfl) rfl) ?_ | refine Run.load (dd := some 13) rfl rfl (op_load1_refs rfl (Opd.tmp _ _ rfl) tH rfl) ?_
  refine Run.pure (dd := some 14) rfl rfl (op_call_pure (fun _ => cmp_c _ _) rfl (Opd.func _) (Opds.cons _ _ _ _ (Opd.tmp _ _ rfl) (Opds.cons _ _ _ _ (Opd.tmp _ _ rfl) Opds.nil))) ?_
  refine Run.pure (dd := some 15) rfl rfl (op_buildSlice_fz rfl (RowsF.cons _ _ _ _ _ _ (Opd.tmp _ _ rfl) tC (by rfl) (RowsF.cons _ _ _ _ _ _ (Opd.tmp _ _ rfl) tC (by rfl) (RowsF.nil _))) rfl rfl) ?_
  refine Run.pure (dd := some 16) rfl rfl (op_call_pure (fun _ => ho) rfl (Opd.func _) (Opds.cons _ _ _ _ (Opd.tmp _ _ rfl) Opds.nil)) ?_
  first | refine Run.pure (dd := some 4) rfl rfl (op_assign rfl (Opd.tmp _ _ rfl)) ?_ | refine Run.pure (dd := some 4) rfl rfl (op_junk (.inr rfl)) ?_
  refine Run.nil (FinD.mk (by kernel_rfl) ?_)
  refine nK ?_
  (first | exact s_o1 hC rfl tV | exact s_o2 hC rfl tV tV | exact s_o3 hC rfl tV tV tV | exact s_out0 hC rfl | exact s_outO hC rfl rfl rfl)
theorem before_c (a b : Edg) : Pure Try.prog 28 [.agg (encE a), .agg (encE b)] (Bf (befB a b)) := by
  refine Meets.intro Try.func28 rfl (Nat.le_of_ble_eq_true rfl) fun C hC => ?_
  simp only [List.map, argEnv, Nat.reduceAdd]
  refine nK ?_
  refine s_reg rfl ?_
  first | refine Run.eff (dd := some 2) rfl rfl (op_box_flat rfl (Opd.tmp _ _ rfl) tC rfl) ?_ | refine Run.eff (dd := some 2) rfl rfl (op_box_refs rfl (Opd.tmp _ _ rfl) tP rfl) ?_
  first | refine Run.eff (dd := some 3) rfl rfl (op_box_flat rfl (Opd.tmp _ _ rfl) tC rfl) ?_ | refine Run.eff (dd := some 3) rfl rfl (op_box_refs rfl (Opd.tmp _ _ rfl) tP rfl) ?_
  first | refine Run.pure (dd := some 4) rfl rfl (op_assign rfl (Opd.const _)) ?_ | refine Run.pure (dd := some 4) rfl rfl (op_junk (.inr rfl)) ?_
  refine Run.nil (FinR.mk ?_)
  refine nK ?_
  refine s_reg rfl ?_
  first | refine Run.pure (dd := some 5) rfl rfl (op_fld_ptr (by decide) rfl (Opd.tmp _ _ rfl)) ?_ | refine Run.pure (dd := some 5) rfl rfl (op_fld_fz (by decide) rfl (Opd.tmp _ _ rfl) tR) ?_
  first | refine Run.load (dd := some 6) rfl rfl (op_load1_flat rfl (Opd.tmp _ _ rfl) tH rfl) ?_ | refine Run.pure (dd := some 6) rfl rfl (op_load1_fz rfl (Opd.tmp _ _ rfl) rfl) ?_ | refine Run.load (dd := some 6) rfl rfl (op_load1_refs rfl (Opd.tmp _ _ rfl) tH rfl) ?_
  first | refine Run.pure (dd := some 7) rfl rfl (op_fld_ptr (by decide) rfl (Opd.tmp _ _ rfl)) ?_ | refine Run.pure (dd := some 7) rfl rfl (op_fld_fz (by decide) rfl (Opd.tmp _ _ rfl) tR) ?_
  first | refine Run.load (dd := some 8) rfl rfl (op_load1_flat rfl (Opd.tmp _ _ rfl) tH rfl) ?_ | refine Run.pure (dd := some 8) rfl rfl (op_load1_fz rfl (Opd.tmp _ _ rfl) rfl) ?_ | refine Run.load (dd := some 8) rfl rfl (op_load1_refs rfl (Opd.tmp _ _ rfl) tH rfl) ?_
  refine Run.pure (dd := some 9) rfl rfl (op_lss rfl (Opd.tmp _ _ rfl) (Opd.tmp _ _ rfl)) ?_
  first | refine Run.pure (dd := some 10) rfl rfl (op_move rfl (Opd.tmp _ _ rfl)) ?_ | refine Run.pure (dd := some 10) rfl rfl (op_junk (.inl rfl)) ?_
  first | refine Run.pureG (dd := some 11) rfl rfl rfl tG (op_fld_ptr (by decide) rfl (Opd.tmp _ _ rfl)) ?_ | refine Run.pureG (dd := some 11) rfl rfl rfl tG (op_fld_fz (by decide) rfl (Opd.tmp _ _ rfl) tR) ?_
  first | refine Run.loadG (dd := some 12) rfl rfl rfl tG (op_load1_flat rfl (Opd.topt _ _ _ rfl tO) tH rfl) ?_ | refine Run.pureG (dd := some 12) rfl rfl rfl tG (op_load1_fz rfl (Opd.topt _ _ _ rfl tO) rfl) ?_ | refine Run.loadG (dd := some 12) rfl rfl rfl tG (op_load1_refs rfl (Opd.topt _ _ _ rfl tO) tH rfl) ?_
  first | refine Run.pureG (dd := some 13) rfl rfl rfl tG (op_fld_ptr (by decide) rfl (Opd.tmp _ _ rfl)) ?_ | refine Run.pureG (dd := some 13) rfl rfl rfl tG (op_fld_fz (by decide) rfl (Opd.tmp _ _ rfl) tR) ?_
  first | refine Run.loadG (dd := some 14) rfl rfl rfl tG (op_load1_flat rfl (Opd.topt _ _ _ rfl tO) tH rfl) ?_ | refine Run.pureG (dd := some 14) rfl rfl rfl tG (op_load1_fz rfl (Opd.topt _ _ _ rfl tO) rfl) ?_ | refine Run.loadG (dd := some 14) rfl rfl rfl tG (op_load1_refs rfl (Opd.topt _ _ _ rfl tO) tH rfl) ?_
  refine Run.pureG (dd := some 15) rfl rfl rfl tG (op_eql rfl (Opd.topt _ _ _ rfl tO) (Opd.topt _ _ _ rfl tO)) ?_
  first | refine Run.pureG (dd := some 16) rfl rfl rfl tG (op_move rfl (Opd.topt _ _ _ rfl tO)) ?_ | refine Run.pureG (dd := some 16) rfl rfl rfl tG (op_junk (.inl rfl)) ?_
  first | refine Run.pureG (dd := some 17) rfl rfl rfl tG (op_fld_ptr (by decide) rfl (Opd.tmp _ _ rfl)) ?_ | refine Run.pureG (dd := some 17) rfl rfl rfl tG (op_fld_fz (by decide) rfl (Opd.tmp _ _ rfl) tR) ?_
  first | refine Run.loadG (dd := some 18) rfl rfl rfl tG (op_load1_flat rfl (Opd.topt _ _ _ rfl tO) tH rfl) ?_ | refine Run.pureG (dd := some 18) rfl rfl rfl tG (op_load1_fz rfl (Opd.topt _ _ _ rfl tO) rfl) ?_ | refine Run.loadG (dd := some 18) rfl rfl rfl tG (op_load1_refs rfl (Opd.topt _ _ _ rfl tO) tH rfl) ?_
  first | refine Run.pureG (dd := some 19) rfl rfl rfl tG (op_fld_ptr (by decide) rfl (Opd.tmp _ _ rfl)) ?_ | refine Run.pureG (dd := some 19) rfl rfl rfl tG (op_fld_fz (by decide) rfl (Opd.tmp _ _ rfl) tR) ?_
  first | refine Run.loadG (dd := some 20) rfl rfl rfl tG (op_load1_flat rfl (Opd.topt _ _ _ rfl tO) tH rfl) ?_ | refine Run.pureG (dd := some 20) rfl rfl rfl tG (op_load1_fz rfl (Opd.topt _ _ _ rfl tO) rfl) ?_ | refine Run.loadG (dd := some 20) rfl rfl rfl tG (op_load1_refs rfl (Opd.topt _ _ _ rfl tO) tH rfl) ?_
  refine Run.pureG (dd := some 21) rfl rfl rfl tG (op_lss rfl (Opd.topt _ _ _ rfl tO) (Opd.topt _ _ _ rfl tO)) ?_
  refine Run.pureG (dd := some 22) rfl rfl rfl tG (op_pick_and rfl (Opd.topt _ _ _ rfl tO) (Opd.topt _ _ _ rfl tO)) ?_
  refine Run.pure (dd := some 23) rfl rfl (op_pick_or rfl (Opd.tmp _ _ rfl) (Opd.topt _ _ _ rfl tO)) ?_
  first | refine Run.pure (dd := some 4) rfl rfl (op_assign rfl (Opd.tmp _ _ rfl)) ?_ | refine Run.pure (dd := some 4) rfl rfl (op_junk (.inr rfl)) ?_
  refine Run.nil (FinR.mk ?_)
  refine nK ?_
  (first | exact s_o1 hC rfl tV | exact s_o2 hC rfl tV tV | exact s_o3 hC rfl tV tV tV | exact s_out0 hC rfl | exact s_outO hC rfl rfl rfl)
theorem size_c (g : Gr) (hg : okG g) : Pure Try.prog 23 [.agg (encG g)] (If .i64 (sizeI g)) := by
  obtain ⟨g1, g2, g3⟩ := hg
  simp only [inr] at g1 g2
  unfold sizeI
  refine Meets.intro Try.func23 rfl (Nat.le_of_ble_eq_true rfl) fun C hC => ?_
  simp only [List.map, argEnv, Nat.reduceAdd]
  refine nK ?_
  refine s_reg rfl ?_
  first | refine Run.eff (dd := some 1) rfl rfl (op_box_flat rfl (Opd.tmp _ _ rfl) tC rfl) ?_ | refine Run.eff (dd := some 1) rfl rfl (op_box_refs rfl (Opd.tmp _ _ rfl) tP rfl) ?_
  first | refine Run.pure (dd := some 2) rfl rfl (op_assign rfl (Opd.const _)) ?_ | refine Run.pure (dd := some 2) rfl rfl (op_junk (.inr rfl)) ?_
  refine Run.nil (FinR.mk ?_)
  refine nK ?_
  refine s_reg rfl ?_
  first | refine Run.pure (dd := some 4) rfl rfl (op_fld_ptr (by decide) rfl (Opd.tmp _ _ rfl)) ?_ | refine Run.pure (dd := some 4) rfl rfl (op_fld_fz (by decide) rfl (Opd.tmp _ _ rfl) tR) ?_
  first | refine Run.load (dd := some 5) rfl rfl (op_load1_flat rfl (Opd.tmp _ _ rfl) tH rfl) ?_ | refine Run.pure (dd := some 5) rfl rfl (op_load1_fz rfl (Opd.tmp _ _ rfl) rfl) ?_ | refine Run.load (dd := some 5) rfl rfl (op_load1_refs rfl (Opd.tmp _ _ rfl) tH rfl) ?_
  refine Run.pure (dd := some 6) rfl rfl (op_lss rfl (Opd.tmp _ _ rfl) (Opd.const _)) ?_
  first | refine Run.pure (dd := some 7) rfl rfl (op_move rfl (Opd.tmp _ _ rfl)) ?_ | refine Run.pure (dd := some 7) rfl rfl (op_junk (.inl rfl)) ?_
  first | refine Run.pureG (dd := some 8) rfl rfl rfl tG (op_fld_ptr (by decide) rfl (Opd.tmp _ _ rfl)) ?_ | refine Run.pureG (dd := some 8) rfl rfl rfl tG (op_fld_fz (by decide) rfl (Opd.tmp _ _ rfl) tR) ?_
  first | refine Run.loadG (dd := some 9) rfl rfl rfl tG (op_load1_flat rfl (Opd.topt _ _ _ rfl tO) tH rfl) ?_ | refine Run.pureG (dd := some 9) rfl rfl rfl tG (op_load1_fz rfl (Opd.topt _ _ _ rfl tO) rfl) ?_ | refine Run.loadG (dd := some 9) rfl rfl rfl tG (op_load1_refs rfl (Opd.topt _ _ _ rfl tO) tH rfl) ?_
  refine Run.pureG (dd := some 10) rfl rfl rfl tG (op_lss rfl (Opd.topt _ _ _ rfl tO) (Opd.const _)) ?_
  refine Run.pure (dd := some 11) rfl rfl (op_pick_or rfl (Opd.tmp _ _ rfl) (Opd.topt _ _ _ rfl tO)) ?_
  first | refine Run.pure (dd := some 3) rfl rfl (op_assign rfl (Opd.tmp _ _ rfl)) ?_ | refine Run.pure (dd := some 3) rfl rfl (op_junk (.inr rfl)) ?_
  refine Run.nil (FinR.mk ?_)
  refine nK ?_
  refine n_cond _ rfl (fun hb => ?_) (fun hb => ?_)
  · rw [if_pos (by simpa using hb)]
    refine nK ?_
    refine s_reg rfl ?_
    first | refine Run.pure (dd := some 2) rfl rfl (op_assign rfl (Opd.const _)) ?_ | refine Run.pure (dd := some 2) rfl rfl (op_junk (.inr rfl)) ?_
    refine Run.nil (FinR.mk ?_)
    refine nK ?_
    (first | exact s_o1 hC rfl tV | exact s_o2 hC rfl tV tV | exact s_o3 hC rfl tV tV tV | exact s_out0 hC rfl | exact s_outO hC rfl rfl rfl)
  · rw [if_neg (by simp at hb; omega)]
    have h0 : 0 ≤ g.r ∧ 0 ≤ g.n := by simp at hb; omega
    refine nK ?_
    refine s_reg rfl ?_
    first | refine Run.pure (dd := some 13) rfl rfl (op_fld_ptr (by decide) rfl (Opd.tmp _ _ rfl)) ?_ | refine Run.pure (dd := some 13) rfl rfl (op_fld_fz (by decide) rfl (Opd.tmp _ _ rfl) tR) ?_
    first | refine Run.load (dd := some 14) rfl rfl (op_load1_flat rfl (Opd.tmp _ _ rfl) tH rfl) ?_ | refine Run.pure (dd := some 14) rfl rfl (op_load1_fz rfl (Opd.tmp _ _ rfl) rfl) ?_ | refine Run.load (dd := some 14) rfl rfl (op_load1_refs rfl (Opd.tmp _ _ rfl) tH rfl) ?_
    refine Run.pure (dd := some 15) rfl rfl (op_gtr rfl (Opd.tmp _ _ rfl) (Opd.const _)) ?_
    first | refine Run.pure (dd := some 16) rfl rfl (op_move rfl (Opd.tmp _ _ rfl)) ?_ | refine Run.pure (dd := some 16) rfl rfl (op_junk (.inl rfl)) ?_
    first | refine Run.pureG (dd := some 17) rfl rfl rfl tG (op_fld_ptr (by decide) rfl (Opd.tmp _ _ rfl)) ?_ | refine Run.pureG (dd := some 17) rfl rfl rfl tG (op_fld_fz (by decide) rfl (Opd.tmp _ _ rfl) tR) ?_
    first | refine Run.loadG (dd := some 18) rfl rfl rfl tG (op_load1_flat rfl (Opd.topt _ _ _ rfl tO) tH rfl) ?_ | refine Run.pureG (dd := some 18) rfl rfl rfl tG (op_load1_fz rfl (Opd.topt _ _ _ rfl tO) rfl) ?_ | refine Run.loadG (dd := some 18) rfl rfl rfl tG (op_load1_refs rfl (Opd.topt _ _ _ rfl tO) tH rfl) ?_
    refine Run.pureG (dd := some 19) rfl rfl rfl tG (op_gtr rfl (Opd.topt _ _ _ rfl tO) (Opd.const _)) ?_
    refine Run.pure (dd := some 20) rfl rfl (op_pick_or rfl (Opd.tmp _ _ rfl) (Opd.topt _ _ _ rfl tO)) ?_
    first | refine Run.pure (dd := some 21) rfl rfl (op_move rfl (Opd.tmp _ _ rfl)) ?_ | refine Run.pure (dd := some 21) rfl rfl (op_junk (.inl rfl)) ?_
    first | refine Run.pureG (dd := some 22) rfl rfl rfl tG (op_fld_ptr (by decide) rfl (Opd.tmp _ _ rfl)) ?_ | refine Run.pureG (dd := some 22) rfl rfl rfl tG (op_fld_fz (by decide) rfl (Opd.tmp _ _ rfl) tR) ?_
    first | refine Run.loadG (dd := some 23) rfl rfl rfl tG (op_load1_flat rfl (Opd.topt _ _ _ rfl tO) tH rfl) ?_ | refine Run.pureG (dd := some 23) rfl rfl rfl tG (op_load1_fz rfl (Opd.topt _ _ _ rfl tO) rfl) ?_ | refine Run.loadG (dd := some 23) rfl rfl rfl tG (op_load1_refs rfl (Opd.topt _ _ _ rfl tO) tH rfl) ?_
    first | refine Run.pureG (dd := some 24) rfl rfl rfl tG (op_fld_ptr (by decide) rfl (Opd.tmp _ _ rfl)) ?_ | refine Run.pureG (dd := some 24) rfl rfl rfl tG (op_fld_fz (by decide) rfl (Opd.tmp _ _ rfl) tR) ?_
    first | refine Run.loadG (dd := some 25) rfl rfl rfl tG (op_load1_flat rfl (Opd.topt _ _ _ rfl tO) tH rfl) ?_ | refine Run.pureG (dd := some 25) rfl rfl rfl tG (op_load1_fz rfl (Opd.topt _ _ _ rfl tO) rfl) ?_ | refine Run.loadG (dd := some 25) rfl rfl rfl tG (op_load1_refs rfl (Opd.topt _ _ _ rfl tO) tH rfl) ?_
    refine Run.pureG (dd := some 26) rfl rfl rfl tG (op_add rfl (Opd.topt _ _ _ rfl tO) (Opd.topt _ _ _ rfl tO) tI) ?_
    refine Run.pureG (dd := some 27) rfl rfl rfl tG (op_gtr rfl (Opd.topt _ _ _ rfl tO) (Opd.const _)) ?_
    refine Run.pure (dd := some 28) rfl rfl (op_pick_or rfl (Opd.tmp _ _ rfl) (Opd.topt _ _ _ rfl tO)) ?_
    first | refine Run.pure (dd := some 29) rfl rfl (op_move rfl (Opd.tmp _ _ rfl)) ?_ | refine Run.pure (dd := some 29) rfl rfl (op_junk (.inl rfl)) ?_
    first | refine Run.pureG (dd := some 30) rfl rfl rfl tG (op_fld_ptr (by decide) rfl (Opd.tmp _ _ rfl)) ?_ | refine Run.pureG (dd := some 30) rfl rfl rfl tG (op_fld_fz (by decide) rfl (Opd.tmp _ _ rfl) tR) ?_
    first | refine Run.loadG (dd := some 31) rfl rfl rfl tG (op_load1_flat rfl (Opd.topt _ _ _ rfl tO) tH rfl) ?_ | refine Run.pureG (dd := some 31) rfl rfl rfl tG (op_load1_fz rfl (Opd.topt _ _ _ rfl tO) rfl) ?_ | refine Run.loadG (dd := some 31) rfl rfl rfl tG (op_load1_refs rfl (Opd.topt _ _ _ rfl tO) tH rfl) ?_
    first | refine Run.pureG (dd := some 32) rfl rfl rfl tG (op_len_fz rfl (by first | exact Opd.topt _ _ _ rfl tO | exact Opd.nil _ _ (Opd.topt _ _ _ rfl tO)) (by first | exact List.length_map _ | rfl)) ?_ | refine Run.pureG (dd := some 32) rfl rfl rfl tG (op_len_sl rfl (Opd.topt _ _ _ rfl tO)) ?_
    refine Run.pureG (dd := some 33) rfl rfl rfl tG (op_gtr rfl (Opd.topt _ _ _ rfl tO) (Opd.const _)) ?_
    refine Run.pure (dd := some 34) rfl rfl (op_pick_or rfl (Opd.tmp _ _ rfl) (Opd.topt _ _ _ rfl tO)) ?_
    first | refine Run.pure (dd := some 12) rfl rfl (op_assign rfl (Opd.tmp _ _ rfl)) ?_ | refine Run.pure (dd := some 12) rfl rfl (op_junk (.inr rfl)) ?_
    refine Run.nil (FinR.mk ?_)
    refine nK ?_
    refine n_cond _ rfl (fun hb => ?_) (fun hb => ?_)
    · rw [if_pos (by simp at hb; omega)]
      refine nK ?_
      refine s_reg rfl ?_
      first | refine Run.pure (dd := some 2) rfl rfl (op_assign rfl (Opd.const _)) ?_ | refine Run.pure (dd := some 2) rfl rfl (op_junk (.inr rfl)) ?_
      refine Run.nil (FinR.mk ?_)
      refine nK ?_
      (first | exact s_o1 hC rfl tV | exact s_o2 hC rfl tV tV | exact s_o3 hC rfl tV tV tV | exact s_out0 hC rfl | exact s_outO hC rfl rfl rfl)
    · rw [if_neg (by simp at hb; omega)]
      refine nK ?_
      refine s_reg rfl ?_
      first | refine Run.pure (dd := some 2) rfl rfl (op_assign rfl (Opd.const _)) ?_ | refine Run.pure (dd := some 2) rfl rfl (op_junk (.inr rfl)) ?_
      refine Run.nil (FinR.mk ?_)
      refine nK ?_
      (first | exact s_o1 hC rfl tV | exact s_o2 hC rfl tV tV | exact s_o3 hC rfl tV tV tV | exact s_out0 hC rfl | exact s_outO hC rfl rfl rfl)
theorem isnode_c (g : Gr) (x : Int) (hs : szOk g) : Pure Try.prog 34 [.agg (encG g), If .i64 x] (Bf (nodeB g x)) := by
  obtain ⟨h1, h2, h3⟩ := hs
  refine Meets.intro Try.func34 rfl (Nat.le_of_ble_eq_true rfl) fun C hC => ?_
  simp only [List.map, argEnv, Nat.reduceAdd]
  refine nK ?_
  refine s_reg rfl ?_
  first | refine Run.eff (dd := some 2) rfl rfl (op_box_flat rfl (Opd.tmp _ _ rfl) tC rfl) ?_ | refine Run.eff (dd := some 2) rfl rfl (op_box_refs rfl (Opd.tmp _ _ rfl) tP rfl) ?_
  first | refine Run.pure (dd := some 4) rfl rfl (op_assign rfl (Opd.const _)) ?_ | refine Run.pure (dd := some 4) rfl rfl (op_junk (.inr rfl)) ?_
  refine Run.nil (FinR.mk ?_)
  refine nK ?_
  refine s_reg rfl ?_
  first | refine Run.pure (dd := some 5) rfl rfl (op_move rfl (Opd.tmp _ _ rfl)) ?_ | refine Run.pure (dd := some 5) rfl rfl (op_junk (.inl rfl)) ?_
  refine Run.pure (dd := some 6) rfl rfl (op_geq rfl (Opd.tmp _ _ rfl) (Opd.const _)) ?_
  first | refine Run.pure (dd := some 7) rfl rfl (op_move rfl (Opd.tmp _ _ rfl)) ?_ | refine Run.pure (dd := some 7) rfl rfl (op_junk (.inl rfl)) ?_
  first | refine Run.pureG (dd := some 8) rfl rfl rfl tG (op_move rfl (Opd.tmp _ _ rfl)) ?_ | refine Run.pureG (dd := some 8) rfl rfl rfl tG (op_junk (.inl rfl)) ?_
  first | refine Run.pureG (dd := some 9) rfl rfl rfl tG (op_fld_ptr (by decide) rfl (Opd.tmp _ _ rfl)) ?_ | refine Run.pureG (dd := some 9) rfl rfl rfl tG (op_fld_fz (by decide) rfl (Opd.tmp _ _ rfl) tR) ?_
  first | refine Run.loadG (dd := some 10) rfl rfl rfl tG (op_load1_flat rfl (Opd.topt _ _ _ rfl tO) tH rfl) ?_ | refine Run.pureG (dd := some 10) rfl rfl rfl tG (op_load1_fz rfl (Opd.topt _ _ _ rfl tO) rfl) ?_ | refine Run.loadG (dd := some 10) rfl rfl rfl tG (op_load1_refs rfl (Opd.topt _ _ _ rfl tO) tH rfl) ?_
  first | refine Run.pureG (dd := some 11) rfl rfl rfl tG (op_fld_ptr (by decide) rfl (Opd.tmp _ _ rfl)) ?_ | refine Run.pureG (dd := some 11) rfl rfl rfl tG (op_fld_fz (by decide) rfl (Opd.tmp _ _ rfl) tR) ?_
  first | refine Run.loadG (dd := some 12) rfl rfl rfl tG (op_load1_flat rfl (Opd.topt _ _ _ rfl tO) tH rfl) ?_ | refine Run.pureG (dd := some 12) rfl rfl rfl tG (op_load1_fz rfl (Opd.topt _ _ _ rfl tO) rfl) ?_ | refine Run.loadG (dd := some 12) rfl rfl rfl tG (op_load1_refs rfl (Opd.topt _ _ _ rfl tO) tH rfl) ?_
  refine Run.pureG (dd := some 13) rfl rfl rfl tG (op_add rfl (Opd.topt _ _ _ rfl tO) (Opd.topt _ _ _ rfl tO) tI) ?_
  refine Run.pureG (dd := some 14) rfl rfl rfl tG (op_lss rfl (Opd.topt _ _ _ rfl tO) (Opd.topt _ _ _ rfl tO)) ?_
  refine Run.pure (dd := some 15) rfl rfl (op_pick_and rfl (Opd.tmp _ _ rfl) (Opd.topt _ _ _ rfl tO)) ?_
  first | refine Run.pure (dd := some 4) rfl rfl (op_assign rfl (Opd.tmp _ _ rfl)) ?_ | refine Run.pure (dd := some 4) rfl rfl (op_junk (.inr rfl)) ?_
  refine Run.nil (FinR.mk ?_)
  refine nK ?_
  (first | exact s_o1 hC rfl tV | exact s_o2 hC rfl tV tV | exact s_o3 hC rfl tV tV tV | exact s_out0 hC rfl | exact s_outO hC rfl rfl rfl)
theorem allowed_c (g : Gr) (e : Edg) (hs : szOk g) : Pure Try.prog 24 [.agg (encG g), .agg (encE e)] (If .i64 (alwI g e)) := by
  unfold alwI
  refine Meets.intro Try.func24 rfl (Nat.le_of_ble_eq_true rfl) fun C hC => ?_
  simp only [List.map, argEnv, Nat.reduceAdd]
  refine nK ?_
  refine s_reg rfl ?_
  first | refine Run.eff (dd := some 2) rfl rfl (op_box_flat rfl (Opd.tmp _ _ rfl) tC rfl) ?_ | refine Run.eff (dd := some 2) rfl rfl (op_box_refs rfl (Opd.tmp _ _ rfl) tP rfl) ?_
  first | refine Run.eff (dd := some 3) rfl rfl (op_box_flat rfl (Opd.tmp _ _ rfl) tC rfl) ?_ | refine Run.eff (dd := some 3) rfl rfl (op_box_refs rfl (Opd.tmp _ _ rfl) tP rfl) ?_
  first | refine Run.pure (dd := some 4) rfl rfl (op_assign rfl (Opd.const _)) ?_ | refine Run.pure (dd := some 4) rfl rfl (op_junk (.inr rfl)) ?_
  refine Run.nil (FinR.mk ?_)
  refine nK ?_
  refine s_reg rfl ?_
  first | refine Run.pure (dd := some 5) rfl rfl (op_assign rfl (Opd.const _)) ?_ | refine Run.pure (dd := some 5) rfl rfl (op_junk (.inr rfl)) ?_
  first | refine Run.pure (dd := some 6) rfl rfl (op_assign rfl (Opd.const _)) ?_ | refine Run.pure (dd := some 6) rfl rfl (op_junk (.inr rfl)) ?_
  refine Run.nil (FinR.mk ?_)
  refine nK ?_
  refine s_reg rfl ?_
  first | refine Run.pure (dd := some 7) rfl rfl (op_fld_ptr (by decide) rfl (Opd.tmp _ _ rfl)) ?_ | refine Run.pure (dd := some 7) rfl rfl (op_fld_fz (by decide) rfl (Opd.tmp _ _ rfl) tR) ?_
  first | refine Run.load (dd := some 8) rfl rfl (op_load1_flat rfl (Opd.tmp _ _ rfl) tH rfl) ?_ | refine Run.pure (dd := some 8) rfl rfl (op_load1_fz rfl (Opd.tmp _ _ rfl) rfl) ?_ | refine Run.load (dd := some 8) rfl rfl (op_load1_refs rfl (Opd.tmp _ _ rfl) tH rfl) ?_
  first | refine Run.pure (dd := some 9) rfl rfl (op_fld_ptr (by decide) rfl (Opd.tmp _ _ rfl)) ?_ | refine Run.pure (dd := some 9) rfl rfl (op_fld_fz (by decide) rfl (Opd.tmp _ _ rfl) tR) ?_
  first | refine Run.load (dd := some 10) rfl rfl (op_load1_flat rfl (Opd.tmp _ _ rfl) tH rfl) ?_ | refine Run.pure (dd := some 10) rfl rfl (op_load1_fz rfl (Opd.tmp _ _ rfl) rfl) ?_ | refine Run.load (dd := some 10) rfl rfl (op_load1_refs rfl (Opd.tmp _ _ rfl) tH rfl) ?_
  refine Run.pure (dd := some 11) rfl rfl (op_geq rfl (Opd.tmp _ _ rfl) (Opd.tmp _ _ rfl)) ?_
  refine Run.nil (FinR.mk ?_)
  refine nK ?_
  refine n_cond _ rfl (fun hb => ?_) (fun hb => ?_)
  · have h0 : g.r ≤ e.f := by simpa using hb
    refine nK ?_
    refine s_reg rfl ?_
    first | refine Run.pure (dd := some 5) rfl rfl (op_assign rfl (Opd.const _)) ?_ | refine Run.pure (dd := some 5) rfl rfl (op_junk (.inr rfl)) ?_
    first | refine Run.pure (dd := some 6) rfl rfl (op_assign rfl (Opd.const _)) ?_ | refine Run.pure (dd := some 6) rfl rfl (op_junk (.inr rfl)) ?_
    refine Run.nil (FinR.mk ?_)
    refine nK ?_
    refine s_reg rfl ?_
    first | refine Run.load (dd := some 13) rfl rfl (op_loadw_flat rfl (Opd.tmp _ _ rfl) tH rfl) ?_ | refine Run.pure (dd := some 13) rfl rfl (op_loadw_fz rfl (Opd.tmp _ _ rfl) rfl) ?_ | refine Run.load (dd := some 13) rfl rfl (op_loadn_flat rfl (Opd.tmp _ _ rfl) tH tR tR) ?_ | refine Run.pure (dd := some 13) rfl rfl (op_loadn_fz rfl (Opd.tmp _ _ rfl) tR) ?_ | refine Run.load (dd := some 13) rfl rfl (op_loadn_refs rfl (Opd.tmp _ _ rfl) tH tR tR) ?_
    first | refine Run.pure (dd := some 14) rfl rfl (op_fld_ptr (by decide) rfl (Opd.tmp _ _ rfl)) ?_ | refine Run.pure (dd := some 14) rfl rfl (op_fld_fz (by decide) rfl (Opd.tmp _ _ rfl) tR) ?_
    first | refine Run.load (dd := some 15) rfl rfl (op_load1_flat rfl (Opd.tmp _ _ rfl) tH rfl) ?_ | refine Run.pure (dd := some 15) rfl rfl (op_load1_fz rfl (Opd.tmp _ _ rfl) rfl) ?_ | refine Run.load (dd := some 15) rfl rfl (op_load1_refs rfl (Opd.tmp _ _ rfl) tH rfl) ?_
    refine Run.pure (dd := some 16) rfl rfl (op_call_pure (fun _ => isnode_c _ _ (by assumption)) rfl (Opd.func _) (Opds.cons _ _ _ _ (Opd.tmp _ _ rfl) (Opds.cons _ _ _ _ (Opd.tmp _ _ rfl) Opds.nil))) ?_
    refine Run.pure (dd := some 17) rfl rfl (op_not rfl (Opd.tmp _ _ rfl)) ?_
    first | refine Run.pure (dd := some 18) rfl rfl (op_move rfl (Opd.tmp _ _ rfl)) ?_ | refine Run.pure (dd := some 18) rfl rfl (op_junk (.inl rfl)) ?_
    first | refine Run.loadG (dd := some 19) rfl rfl rfl tG (op_loadw_flat rfl (Opd.tmp _ _ rfl) tH rfl) ?_ | refine Run.pureG (dd := some 19) rfl rfl rfl tG (op_loadw_fz rfl (Opd.tmp _ _ rfl) rfl) ?_ | refine Run.loadG (dd := some 19) rfl rfl rfl tG (op_loadn_flat rfl (Opd.tmp _ _ rfl) tH tR tR) ?_ | refine Run.pureG (dd := some 19) rfl rfl rfl tG (op_loadn_fz rfl (Opd.tmp _ _ rfl) tR) ?_ | refine Run.loadG (dd := some 19) rfl rfl rfl tG (op_loadn_refs rfl (Opd.tmp _ _ rfl) tH tR tR) ?_
    first | refine Run.pureG (dd := some 20) rfl rfl rfl tG (op_fld_ptr (by decide) rfl (Opd.tmp _ _ rfl)) ?_ | refine Run.pureG (dd := some 20) rfl rfl rfl tG (op_fld_fz (by decide) rfl (Opd.tmp _ _ rfl) tR) ?_
    first | refine Run.loadG (dd := some 21) rfl rfl rfl tG (op_load1_flat rfl (Opd.topt _ _ _ rfl tO) tH rfl) ?_ | refine Run.pureG (dd := some 21) rfl rfl rfl tG (op_load1_fz rfl (Opd.topt _ _ _ rfl tO) rfl) ?_ | refine Run.loadG (dd := some 21) rfl rfl rfl tG (op_load1_refs rfl (Opd.topt _ _ _ rfl tO) tH rfl) ?_
    refine Run.pureG (dd := some 22) rfl rfl rfl tG (op_call_pure (fun _ => isnode_c _ _ (by assumption)) rfl (Opd.func _) (Opds.cons _ _ _ _ (Opd.topt _ _ _ rfl tO) (Opds.cons _ _ _ _ (Opd.topt _ _ _ rfl tO) Opds.nil))) ?_
    refine Run.pureG (dd := some 23) rfl rfl rfl tG (op_not rfl (Opd.topt _ _ _ rfl tO)) ?_
    refine Run.pure (dd := some 24) rfl rfl (op_pick_or rfl (Opd.tmp _ _ rfl) (Opd.topt _ _ _ rfl tO)) ?_
    first | refine Run.pure (dd := some 12) rfl rfl (op_assign rfl (Opd.tmp _ _ rfl)) ?_ | refine Run.pure (dd := some 12) rfl rfl (op_junk (.inr rfl)) ?_
    refine Run.nil (FinR.mk ?_)
    refine nK ?_
    refine n_cond _ rfl (fun hb => ?_) (fun hb => ?_)
    · rw [if_pos (by simpa using hb)]
      refine nK ?_
      refine s_reg rfl ?_
      first | refine Run.pure (dd := some 4) rfl rfl (op_assign rfl (Opd.const _)) ?_ | refine Run.pure (dd := some 4) rfl rfl (op_junk (.inr rfl)) ?_
      refine Run.nil (FinR.mk ?_)
      refine nK ?_
      (first | exact s_o1 hC rfl tV | exact s_o2 hC rfl tV tV | exact s_o3 hC rfl tV tV tV | exact s_out0 hC rfl | exact s_outO hC rfl rfl rfl)
    · rw [if_neg (by simpa using hb)]
      refine nK ?_
      refine s_reg rfl ?_
      first | refine Run.pure (dd := some 26) rfl rfl (op_fld_ptr (by decide) rfl (Opd.tmp _ _ rfl)) ?_ | refine Run.pure (dd := some 26) rfl rfl (op_fld_fz (by decide) rfl (Opd.tmp _ _ rfl) tR) ?_
      first | refine Run.load (dd := some 27) rfl rfl (op_load1_flat rfl (Opd.tmp _ _ rfl) tH rfl) ?_ | refine Run.pure (dd := some 27) rfl rfl (op_load1_fz rfl (Opd.tmp _ _ rfl) rfl) ?_ | refine Run.load (dd := some 27) rfl rfl (op_load1_refs rfl (Opd.tmp _ _ rfl) tH rfl) ?_
      first | refine Run.pure (dd := some 28) rfl rfl (op_fld_ptr (by decide) rfl (Opd.tmp _ _ rfl)) ?_ | refine Run.pure (dd := some 28) rfl rfl (op_fld_fz (by decide) rfl (Opd.tmp _ _ rfl) tR) ?_
      first | refine Run.load (dd := some 29) rfl rfl (op_load1_flat rfl (Opd.tmp _ _ rfl) tH rfl) ?_ | refine Run.pure (dd := some 29) rfl rfl (op_load1_fz rfl (Opd.tmp _ _ rfl) rfl) ?_ | refine Run.load (dd := some 29) rfl rfl (op_load1_refs rfl (Opd.tmp _ _ rfl) tH rfl) ?_
      refine Run.pure (dd := some 30) rfl rfl (op_eql rfl (Opd.tmp _ _ rfl) (Opd.tmp _ _ rfl)) ?_
      first | refine Run.pure (dd := some 31) rfl rfl (op_move rfl (Opd.tmp _ _ rfl)) ?_ | refine Run.pure (dd := some 31) rfl rfl (op_junk (.inl rfl)) ?_
      first | refine Run.pureG (dd := some 32) rfl rfl rfl tG (op_fld_ptr (by decide) rfl (Opd.tmp _ _ rfl)) ?_ | refine Run.pureG (dd := some 32) rfl rfl rfl tG (op_fld_fz (by decide) rfl (Opd.tmp _ _ rfl) tR) ?_
      first | refine Run.loadG (dd := some 33) rfl rfl rfl tG (op_load1_flat rfl (Opd.topt _ _ _ rfl tO) tH rfl) ?_ | refine Run.pureG (dd := some 33) rfl rfl rfl tG (op_load1_fz rfl (Opd.topt _ _ _ rfl tO) rfl) ?_ | refine Run.loadG (dd := some 33) rfl rfl rfl tG (op_load1_refs rfl (Opd.topt _ _ _ rfl tO) tH rfl) ?_
      first | refine Run.pureG (dd := some 34) rfl rfl rfl tG (op_fld_ptr (by decide) rfl (Opd.tmp _ _ rfl)) ?_ | refine Run.pureG (dd := some 34) rfl rfl rfl tG (op_fld_fz (by decide) rfl (Opd.tmp _ _ rfl) tR) ?_
      first | refine Run.loadG (dd := some 35) rfl rfl rfl tG (op_load1_flat rfl (Opd.topt _ _ _ rfl tO) tH rfl) ?_ | refine Run.pureG (dd := some 35) rfl rfl rfl tG (op_load1_fz rfl (Opd.topt _ _ _ rfl tO) rfl) ?_ | refine Run.loadG (dd := some 35) rfl rfl rfl tG (op_load1_refs rfl (Opd.topt _ _ _ rfl tO) tH rfl) ?_
      refine Run.pureG (dd := some 36) rfl rfl rfl tG (op_geq rfl (Opd.topt _ _ _ rfl tO) (Opd.topt _ _ _ rfl tO)) ?_
      first | refine Run.pureG (dd := some 37) rfl rfl rfl tG (op_move rfl (Opd.topt _ _ _ rfl tO)) ?_ | refine Run.pureG (dd := some 37) rfl rfl rfl tG (op_junk (.inl rfl)) ?_
      first | refine Run.pureG (dd := some 38) rfl rfl rfl tG (op_fld_ptr (by decide) rfl (Opd.tmp _ _ rfl)) ?_ | refine Run.pureG (dd := some 38) rfl rfl rfl tG (op_fld_fz (by decide) rfl (Opd.tmp _ _ rfl) tR) ?_
      first | refine Run.loadG (dd := some 39) rfl rfl rfl tG (op_load1_flat rfl (Opd.topt _ _ _ rfl tO) tH rfl) ?_ | refine Run.pureG (dd := some 39) rfl rfl rfl tG (op_load1_fz rfl (Opd.topt _ _ _ rfl tO) rfl) ?_ | refine Run.loadG (dd := some 39) rfl rfl rfl tG (op_load1_refs rfl (Opd.topt _ _ _ rfl tO) tH rfl) ?_
      first | refine Run.pureG (dd := some 40) rfl rfl rfl tG (op_fld_ptr (by decide) rfl (Opd.tmp _ _ rfl)) ?_ | refine Run.pureG (dd := some 40) rfl rfl rfl tG (op_fld_fz (by decide) rfl (Opd.tmp _ _ rfl) tR) ?_
      first | refine Run.loadG (dd := some 41) rfl rfl rfl tG (op_load1_flat rfl (Opd.topt _ _ _ rfl tO) tH rfl) ?_ | refine Run.pureG (dd := some 41) rfl rfl rfl tG (op_load1_fz rfl (Opd.topt _ _ _ rfl tO) rfl) ?_ | refine Run.loadG (dd := some 41) rfl rfl rfl tG (op_load1_refs rfl (Opd.topt _ _ _ rfl tO) tH rfl) ?_
      refine Run.pureG (dd := some 42) rfl rfl rfl tG (op_geq rfl (Opd.topt _ _ _ rfl tO) (Opd.topt _ _ _ rfl tO)) ?_
      refine Run.pureG (dd := some 43) rfl rfl rfl tG (op_pick_and rfl (Opd.topt _ _ _ rfl tO) (Opd.topt _ _ _ rfl tO)) ?_
      refine Run.pure (dd := some 44) rfl rfl (op_pick_or rfl (Opd.tmp _ _ rfl) (Opd.topt _ _ _ rfl tO)) ?_
      first | refine Run.pure (dd := some 45) rfl rfl (op_move rfl (Opd.tmp _ _ rfl)) ?_ | refine Run.pure (dd := some 45) rfl rfl (op_junk (.inl rfl)) ?_
      first | refine Run.pureG (dd := some 46) rfl rfl rfl tG (op_fld_ptr (by decide) rfl (Opd.tmp _ _ rfl)) ?_ | refine Run.pureG (dd := some 46) rfl rfl rfl tG (op_fld_fz (by decide) rfl (Opd.tmp _ _ rfl) tR) ?_
      first | refine Run.loadG (dd := some 47) rfl rfl rfl tG (op_load1_flat rfl (Opd.topt _ _ _ rfl tO) tH rfl) ?_ | refine Run.pureG (dd := some 47) rfl rfl rfl tG (op_load1_fz rfl (Opd.topt _ _ _ rfl tO) rfl) ?_ | refine Run.loadG (dd := some 47) rfl rfl rfl tG (op_load1_refs rfl (Opd.topt _ _ _ rfl tO) tH rfl) ?_
      first | refine Run.pureG (dd := some 48) rfl rfl rfl tG (op_move rfl (Opd.tmp _ _ rfl)) ?_ | refine Run.pureG (dd := some 48) rfl rfl rfl tG (op_junk (.inl rfl)) ?_
      refine Run.pureG (dd := some 49) rfl rfl rfl tG (op_lss rfl (Opd.topt _ _ _ rfl tO) (Opd.topt _ _ _ rfl tO)) ?_
      refine Run.pure (dd := some 50) rfl rfl (op_pick_or rfl (Opd.tmp _ _ rfl) (Opd.topt _ _ _ rfl tO)) ?_
      first | refine Run.pure (dd := some 51) rfl rfl (op_move rfl (Opd.tmp _ _ rfl)) ?_ | refine Run.pure (dd := some 51) rfl rfl (op_junk (.inl rfl)) ?_
      first | refine Run.pureG (dd := some 52) rfl rfl rfl tG (op_fld_ptr (by decide) rfl (Opd.tmp _ _ rfl)) ?_ | refine Run.pureG (dd := some 52) rfl rfl rfl tG (op_fld_fz (by decide) rfl (Opd.tmp _ _ rfl) tR) ?_
      first | refine Run.loadG (dd := some 53) rfl rfl rfl tG (op_load1_flat rfl (Opd.topt _ _ _ rfl tO) tH rfl) ?_ | refine Run.pureG (dd := some 53) rfl rfl rfl tG (op_load1_fz rfl (Opd.topt _ _ _ rfl tO) rfl) ?_ | refine Run.loadG (dd := some 53) rfl rfl rfl tG (op_load1_refs rfl (Opd.topt _ _ _ rfl tO) tH rfl) ?_
      first | refine Run.pureG (dd := some 54) rfl rfl rfl tG (op_move rfl (Opd.tmp _ _ rfl)) ?_ | refine Run.pureG (dd := some 54) rfl rfl rfl tG (op_junk (.inl rfl)) ?_
      refine Run.pureG (dd := some 55) rfl rfl rfl tG (op_gtr rfl (Opd.topt _ _ _ rfl tO) (Opd.topt _ _ _ rfl tO)) ?_
      refine Run.pure (dd := some 56) rfl rfl (op_pick_or rfl (Opd.tmp _ _ rfl) (Opd.topt _ _ _ rfl tO)) ?_
      first | refine Run.pure (dd := some 25) rfl rfl (op_assign rfl (Opd.tmp _ _ rfl)) ?_ | refine Run.pure (dd := some 25) rfl rfl (op_junk (.inr rfl)) ?_
      refine Run.nil (FinR.mk ?_)
      refine nK ?_
      refine n_cond _ rfl (fun hb => ?_) (fun hb => ?_)
      · rw [if_pos (by simp at hb; omega)]
        refine nK ?_
        refine s_reg rfl ?_
        first | refine Run.pure (dd := some 4) rfl rfl (op_assign rfl (Opd.const _)) ?_ | refine Run.pure (dd := some 4) rfl rfl (op_junk (.inr rfl)) ?_
        refine Run.nil (FinR.mk ?_)
        refine nK ?_
        (first | exact s_o1 hC rfl tV | exact s_o2 hC rfl tV tV | exact s_o3 hC rfl tV tV tV | exact s_out0 hC rfl | exact s_outO hC rfl rfl rfl)
      · rw [if_neg (by simp at hb; omega)]
        refine nK ?_
        refine s_reg rfl ?_
        first | refine Run.pure (dd := some 4) rfl rfl (op_assign rfl (Opd.const _)) ?_ | refine Run.pure (dd := some 4) rfl rfl (op_junk (.inr rfl)) ?_
        refine Run.nil (FinR.mk ?_)
        refine nK ?_
        (first | exact s_o1 hC rfl tV | exact s_o2 hC rfl tV tV | exact s_o3 hC rfl tV tV tV | exact s_out0 hC rfl | exact s_outO hC rfl rfl rfl)
  · have h0 : ¬ g.r ≤ e.f := by simpa using hb
    refine nK ?_
    refine s_reg rfl ?_
    first | refine Run.load (dd := some 13) rfl rfl (op_loadw_flat rfl (Opd.tmp _ _ rfl) tH rfl) ?_ | refine Run.pure (dd := some 13) rfl rfl (op_loadw_fz rfl (Opd.tmp _ _ rfl) rfl) ?_ | refine Run.load (dd := some 13) rfl rfl (op_loadn_flat rfl (Opd.tmp _ _ rfl) tH tR tR) ?_ | refine Run.pure (dd := some 13) rfl rfl (op_loadn_fz rfl (Opd.tmp _ _ rfl) tR) ?_ | refine Run.load (dd := some 13) rfl rfl (op_loadn_refs rfl (Opd.tmp _ _ rfl) tH tR tR) ?_
    first | refine Run.pure (dd := some 14) rfl rfl (op_fld_ptr (by decide) rfl (Opd.tmp _ _ rfl)) ?_ | refine Run.pure (dd := some 14) rfl rfl (op_fld_fz (by decide) rfl (Opd.tmp _ _ rfl) tR) ?_
    first | refine Run.load (dd := some 15) rfl rfl (op_load1_flat rfl (Opd.tmp _ _ rfl) tH rfl) ?_ | refine Run.pure (dd := some 15) rfl rfl (op_load1_fz rfl (Opd.tmp _ _ rfl) rfl) ?_ | refine Run.load (dd := some 15) rfl rfl (op_load1_refs rfl (Opd.tmp _ _ rfl) tH rfl) ?_
    refine Run.pure (dd := some 16) rfl rfl (op_call_pure (fun _ => isnode_c _ _ (by assumption)) rfl (Opd.func _) (Opds.cons _ _ _ _ (Opd.tmp _ _ rfl) (Opds.cons _ _ _ _ (Opd.tmp _ _ rfl) Opds.nil))) ?_
    refine Run.pure (dd := some 17) rfl rfl (op_not rfl (Opd.tmp _ _ rfl)) ?_
    first | refine Run.pure (dd := some 18) rfl rfl (op_move rfl (Opd.tmp _ _ rfl)) ?_ | refine Run.pure (dd := some 18) rfl rfl (op_junk (.inl rfl)) ?_
    first | refine Run.loadG (dd := some 19) rfl rfl rfl tG (op_loadw_flat rfl (Opd.tmp _ _ rfl) tH rfl) ?_ | refine Run.pureG (dd := some 19) rfl rfl rfl tG (op_loadw_fz rfl (Opd.tmp _ _ rfl) rfl) ?_ | refine Run.loadG (dd := some 19) rfl rfl rfl tG (op_loadn_flat rfl (Opd.tmp _ _ rfl) tH tR tR) ?_ | refine Run.pureG (dd := some 19) rfl rfl rfl tG (op_loadn_fz rfl (Opd.tmp _ _ rfl) tR) ?_ | refine Run.loadG (dd := some 19) rfl rfl rfl tG (op_loadn_refs rfl (Opd.tmp _ _ rfl) tH tR tR) ?_
    first | refine Run.pureG (dd := some 20) rfl rfl rfl tG (op_fld_ptr (by decide) rfl (Opd.tmp _ _ rfl)) ?_ | refine Run.pureG (dd := some 20) rfl rfl rfl tG (op_fld_fz (by decide) rfl (Opd.tmp _ _ rfl) tR) ?_
    first | refine Run.loadG (dd := some 21) rfl rfl rfl tG (op_load1_flat rfl (Opd.topt _ _ _ rfl tO) tH rfl) ?_ | refine Run.pureG (dd := some 21) rfl rfl rfl tG (op_load1_fz rfl (Opd.topt _ _ _ rfl tO) rfl) ?_ | refine Run.loadG (dd := some 21) rfl rfl rfl tG (op_load1_refs rfl (Opd.topt _ _ _ rfl tO) tH rfl) ?_
    refine Run.pureG (dd := some 22) rfl rfl rfl tG (op_call_pure (fun _ => isnode_c _ _ (by assumption)) rfl (Opd.func _) (Opds.cons _ _ _ _ (Opd.topt _ _ _ rfl tO) (Opds.cons _ _ _ _ (Opd.topt _ _ _ rfl tO) Opds.nil))) ?_
    refine Run.pureG (dd := some 23) rfl rfl rfl tG (op_not rfl (Opd.topt _ _ _ rfl tO)) ?_
    refine Run.pure (dd := some 24) rfl rfl (op_pick_or rfl (Opd.tmp _ _ rfl) (Opd.topt _ _ _ rfl tO)) ?_
    first | refine Run.pure (dd := some 12) rfl rfl (op_assign rfl (Opd.tmp _ _ rfl)) ?_ | refine Run.pure (dd := some 12) rfl rfl (op_junk (.inr rfl)) ?_
    refine Run.nil (FinR.mk ?_)
    refine nK ?_
    refine n_cond _ rfl (fun hb => ?_) (fun hb => ?_)
    · rw [if_pos (by simpa using hb)]
      refine nK ?_
      refine s_reg rfl ?_
      first | refine Run.pure (dd := some 4) rfl rfl (op_assign rfl (Opd.const _)) ?_ | refine Run.pure (dd := some 4) rfl rfl (op_junk (.inr rfl)) ?_
      refine Run.nil (FinR.mk ?_)
      refine nK ?_
      (first | exact s_o1 hC rfl tV | exact s_o2 hC rfl tV tV | exact s_o3 hC rfl tV tV tV | exact s_out0 hC rfl | exact s_outO hC rfl rfl rfl)
    · rw [if_neg (by simpa using hb)]
      refine nK ?_
      refine s_reg rfl ?_
      first | refine Run.pure (dd := some 26) rfl rfl (op_fld_ptr (by decide) rfl (Opd.tmp _ _ rfl)) ?_ | refine Run.pure (dd := some 26) rfl rfl (op_fld_fz (by decide) rfl (Opd.tmp _ _ rfl) tR) ?_
      first | refine Run.load (dd := some 27) rfl rfl (op_load1_flat rfl (Opd.tmp _ _ rfl) tH rfl) ?_ | refine Run.pure (dd := some 27) rfl rfl (op_load1_fz rfl (Opd.tmp _ _ rfl) rfl) ?_ | refine Run.load (dd := some 27) rfl rfl (op_load1_refs rfl (Opd.tmp _ _ rfl) tH rfl) ?_
      first | refine Run.pure (dd := some 28) rfl rfl (op_fld_ptr (by decide) rfl (Opd.tmp _ _ rfl)) ?_ | refine Run.pure (dd := some 28) rfl rfl (op_fld_fz (by decide) rfl (Opd.tmp _ _ rfl) tR) ?_
      first | refine Run.load (dd := some 29) rfl rfl (op_load1_flat rfl (Opd.tmp _ _ rfl) tH rfl) ?_ | refine Run.pure (dd := some 29) rfl rfl (op_load1_fz rfl (Opd.tmp _ _ rfl) rfl) ?_ | refine Run.load (dd := some 29) rfl rfl (op_load1_refs rfl (Opd.tmp _ _ rfl) tH rfl) ?_
      refine Run.pure (dd := some 30) rfl rfl (op_eql rfl (Opd.tmp _ _ rfl) (Opd.tmp _ _ rfl)) ?_
      first | refine Run.pure (dd := some 31) rfl rfl (op_move rfl (Opd.tmp _ _ rfl)) ?_ | refine Run.pure (dd := some 31) rfl rfl (op_junk (.inl rfl)) ?_
      first | refine Run.pureG (dd := some 32) rfl rfl rfl tG (op_fld_ptr (by decide) rfl (Opd.tmp _ _ rfl)) ?_ | refine Run.pureG (dd := some 32) rfl rfl rfl tG (op_fld_fz (by decide) rfl (Opd.tmp _ _ rfl) tR) ?_
      first | refine Run.loadG (dd := some 33) rfl rfl rfl tG (op_load1_flat rfl (Opd.topt _ _ _ rfl tO) tH rfl) ?_ | refine Run.pureG (dd := some 33) rfl rfl rfl tG (op_load1_fz rfl (Opd.topt _ _ _ rfl tO) rfl) ?_ | refine Run.loadG (dd := some 33) rfl rfl rfl tG (op_load1_refs rfl (Opd.topt _ _ _ rfl tO) tH rfl) ?_
      first | refine Run.pureG (dd := some 34) rfl rfl rfl tG (op_fld_ptr (by decide) rfl (Opd.tmp _ _ rfl)) ?_ | refine Run.pureG (dd := some 34) rfl rfl rfl tG (op_fld_fz (by decide) rfl (Opd.tmp _ _ rfl) tR) ?_
      first | refine Run.loadG (dd := some 35) rfl rfl rfl tG (op_load1_flat rfl (Opd.topt _ _ _ rfl tO) tH rfl) ?_ | refine Run.pureG (dd := some 35) rfl rfl rfl tG (op_load1_fz rfl (Opd.topt _ _ _ rfl tO) rfl) ?_ | refine Run.loadG (dd := some 35) rfl rfl rfl tG (op_load1_refs rfl (Opd.topt _ _ _ rfl tO) tH rfl) ?_
      refine Run.pureG (dd := some 36) rfl rfl rfl tG (op_geq rfl (Opd.topt _ _ _ rfl tO) (Opd.topt _ _ _ rfl tO)) ?_
      first | refine Run.pureG (dd := some 37) rfl rfl rfl tG (op_move rfl (Opd.topt _ _ _ rfl tO)) ?_ | refine Run.pureG (dd := some 37) rfl rfl rfl tG (op_junk (.inl rfl)) ?_
      first | refine Run.pureG (dd := some 38) rfl rfl rfl tG (op_fld_ptr (by decide) rfl (Opd.tmp _ _ rfl)) ?_ | refine Run.pureG (dd := some 38) rfl rfl rfl tG (op_fld_fz (by decide) rfl (Opd.tmp _ _ rfl) tR) ?_
      first | refine Run.loadG (dd := some 39) rfl rfl rfl tG (op_load1_flat rfl (Opd.topt _ _ _ rfl tO) tH rfl) ?_ | refine Run.pureG (dd := some 39) rfl rfl rfl tG (op_load1_fz rfl (Opd.topt _ _ _ rfl tO) rfl) ?_ | refine Run.loadG (dd := some 39) rfl rfl rfl tG (op_load1_refs rfl (Opd.topt _ _ _ rfl tO) tH rfl) ?_
      first | refine Run.pureG (dd := some 40) rfl rfl rfl tG (op_fld_ptr (by decide) rfl (Opd.tmp _ _ rfl)) ?_ | refine Run.pureG (dd := some 40) rfl rfl rfl tG (op_fld_fz (by decide) rfl (Opd.tmp _ _ rfl) tR) ?_
      first | refine Run.loadG (dd := some 41) rfl rfl rfl tG (op_load1_flat rfl (Opd.topt _ _ _ rfl tO) tH rfl) ?_ | refine Run.pureG (dd := some 41) rfl rfl rfl tG (op_load1_fz rfl (Opd.topt _ _ _ rfl tO) rfl) ?_ | refine Run.loadG (dd := some 41) rfl rfl rfl tG (op_load1_refs rfl (Opd.topt _ _ _ rfl tO) tH rfl) ?_
      refine Run.pureG (dd := some 42) rfl rfl rfl tG (op_geq rfl (Opd.topt _ _ _ rfl tO) (Opd.topt _ _ _ rfl tO)) ?_
      refine Run.pureG (dd := some 43) rfl rfl rfl tG (op_pick_and rfl (Opd.topt _ _ _ rfl tO) (Opd.topt _ _ _ rfl tO)) ?_
      refine Run.pure (dd := some 44) rfl rfl (op_pick_or rfl (Opd.tmp _ _ rfl) (Opd.topt _ _ _ rfl tO)) ?_
      first | refine Run.pure (dd := some 45) rfl rfl (op_move rfl (Opd.tmp _ _ rfl)) ?_ | refine Run.pure (dd := some 45) rfl rfl (op_junk (.inl rfl)) ?_
      first | refine Run.pureG (dd := some 46) rfl rfl rfl tG (op_fld_ptr (by decide) rfl (Opd.tmp _ _ rfl)) ?_ | refine Run.pureG (dd := some 46) rfl rfl rfl tG (op_fld_fz (by decide) rfl (Opd.tmp _ _ rfl) tR) ?_
      first | refine Run.loadG (dd := some 47) rfl rfl rfl tG (op_load1_flat rfl (Opd.topt _ _ _ rfl tO) tH rfl) ?_ | refine Run.pureG (dd := some 47) rfl rfl rfl tG (op_load1_fz rfl (Opd.topt _ _ _ rfl tO) rfl) ?_ | refine Run.loadG (dd := some 47) rfl rfl rfl tG (op_load1_refs rfl (Opd.topt _ _ _ rfl tO) tH rfl) ?_
      first | refine Run.pureG (dd := some 48) rfl rfl rfl tG (op_move rfl (Opd.tmp _ _ rfl)) ?_ | refine Run.pureG (dd := some 48) rfl rfl rfl tG (op_junk (.inl rfl)) ?_
      refine Run.pureG (dd := some 49) rfl rfl rfl tG (op_lss rfl (Opd.topt _ _ _ rfl tO) (Opd.topt _ _ _ rfl tO)) ?_
      refine Run.pure (dd := some 50) rfl rfl (op_pick_or rfl (Opd.tmp _ _ rfl) (Opd.topt _ _ _ rfl tO)) ?_
      first | refine Run.pure (dd := some 51) rfl rfl (op_move rfl (Opd.tmp _ _ rfl)) ?_ | refine Run.pure (dd := some 51) rfl rfl (op_junk (.inl rfl)) ?_
      first | refine Run.pureG (dd := some 52) rfl rfl rfl tG (op_fld_ptr (by decide) rfl (Opd.tmp _ _ rfl)) ?_ | refine Run.pureG (dd := some 52) rfl rfl rfl tG (op_fld_fz (by decide) rfl (Opd.tmp _ _ rfl) tR) ?_
      first | refine Run.loadG (dd := some 53) rfl rfl rfl tG (op_load1_flat rfl (Opd.topt _ _ _ rfl tO) tH rfl) ?_ | refine Run.pureG (dd := some 53) rfl rfl rfl tG (op_load1_fz rfl (Opd.topt _ _ _ rfl tO) rfl) ?_ | refine Run.loadG (dd := some 53) rfl rfl rfl tG (op_load1_refs rfl (Opd.topt _ _ _ rfl tO) tH rfl) ?_
      first | refine Run.pureG (dd := some 54) rfl rfl rfl tG (op_move rfl (Opd.tmp _ _ rfl)) ?_ | refine Run.pureG (dd := some 54) rfl rfl rfl tG (op_junk (.inl rfl)) ?_
      refine Run.pureG (dd := some 55) rfl rfl rfl tG (op_gtr rfl (Opd.topt _ _ _ rfl tO) (Opd.topt _ _ _ rfl tO)) ?_
      refine Run.pure (dd := some 56) rfl rfl (op_pick_or rfl (Opd.tmp _ _ rfl) (Opd.topt _ _ _ rfl tO)) ?_
      first | refine Run.pure (dd := some 25) rfl rfl (op_assign rfl (Opd.tmp _ _ rfl)) ?_ | refine Run.pure (dd := some 25) rfl rfl (op_junk (.inr rfl)) ?_
      refine Run.nil (FinR.mk ?_)
      refine nK ?_
      refine n_cond _ rfl (fun hb => ?_) (fun hb => ?_)
      · rw [if_pos (by simp at hb; omega)]
        refine nK ?_
        refine s_reg rfl ?_
        first | refine Run.pure (dd := some 4) rfl rfl (op_assign rfl (Opd.const _)) ?_ | refine Run.pure (dd := some 4) rfl rfl (op_junk (.inr rfl)) ?_
        refine Run.nil (FinR.mk ?_)
        refine nK ?_
        (first | exact s_o1 hC rfl tV | exact s_o2 hC rfl tV tV | exact s_o3 hC rfl tV tV tV | exact s_out0 hC rfl | exact s_outO hC rfl rfl rfl)
      · rw [if_neg (by simp at hb; omega)]
        refine nK ?_
        refine s_reg rfl ?_
        first | refine Run.pure (dd := some 4) rfl rfl (op_assign rfl (Opd.const _)) ?_ | refine Run.pure (dd := some 4) rfl rfl (op_junk (.inr rfl)) ?_
        refine Run.nil (FinR.mk ?_)
        refine nK ?_
        (first | exact s_o1 hC rfl tV | exact s_o2 hC rfl tV tV | exact s_o3 hC rfl tV tV tV | exact s_out0 hC rfl | exact s_outO hC rfl rfl rfl)
end Go.Proofs.Ytdbdajokdipmlaa
/- Lists of edges and numbers: what the reference's loops compute. -/
namespace Go.Pl
open Go.RT
set_option linter.all false
def isB (f t : Int) (e : Edg) : Bool := decide (e.f = f) && decide (e.t = t)
def fndAt (f t : Int) : Nat → List Edg → Int
  | _, [] => -1
  | k, e :: l => if isB f t e = true then (k : Int) else fndAt f t (k + 1) l
abbrev fndI (l : List Edg) (f t : Int) : Int := fndAt f t 0 l
def costL (f t : Int) : List Edg → Int × Bool
  | [] => (0, false)
  | e :: l => if isB f t e = true then (e.c, true) else costL f t l
def insR (n : Int) : Bool → List Int → List Int
  | d, [] => if d then [] else [n]
  | d, x :: l => (if !d && decide (n ≤ x) then [n] else []) ++ ((if x ≠ n then [x] else []) ++ insR n (d || (!d && decide (n ≤ x))) l)
def nextR (n : Int) : List Int → List Edg → List Int
  | out, [] => out
  | out, e :: l => if e.f = n then nextR n (insR e.t false out) l else nextR n out l
def putR (e : Edg) : Bool → List Edg → List Edg
  | d, [] => if d then [] else [e]
  | d, x :: l => (if !d && befB e x then [e] else []) ++ (x :: putR e (d || (!d && befB e x)) l)
def butR (at_ : Int) : Nat → List Edg → List Edg
  | _, [] => []
  | k, e :: l => (if (k : Int) ≠ at_ then [e] else []) ++ butR at_ (k + 1) l
theorem insR_len (n : Int) : ∀ (l : List Int) (d : Bool), (insR n d l).length ≤ l.length + 1
  | [], d => by cases d <;> simp [insR]
  | x :: l, d => by
    simp only [insR, List.length_append, List.length_cons]
    have h := insR_len n l (d || (!d && decide (n ≤ x)))
    have h2 : ∀ l, (insR n true l).length ≤ l.length := fun l => by
      induction l with
      | nil => simp [insR]
      | cons x l ih => simp only [insR, List.length_append, List.length_cons]; simp at ih ⊢; split <;> simp <;> omega
    cases d
    · by_cases hx : n ≤ x
      · have := h2 l
        simp [hx] at h ⊢; split <;> simp <;> omega
      · simp [hx] at h ⊢; split <;> simp <;> omega
    · simp at h ⊢
      have := h2 l
      split <;> simp <;> omega
theorem putR_len (e : Edg) : ∀ (l : List Edg) (d : Bool), (putR e d l).length = l.length + if d then 0 else 1
  | [], d => by cases d <;> simp [putR]
  | x :: l, d => by
    simp only [putR, List.length_append, List.length_cons, putR_len e l]
    cases d <;> by_cases hx : befB e x <;> simp [hx] <;> omega
theorem butR_len (a : Int) : ∀ (l : List Edg) (k : Nat), (butR a k l).length ≤ l.length
  | [], k => by simp [butR]
  | x :: l, k => by
    have := butR_len a l (k + 1)
    simp only [butR, List.length_append, List.length_cons]; split <;> simp <;> omega
theorem fndAt_rng (f t : Int) : ∀ (l : List Edg) (k : Nat), fndAt f t k l = -1 ∨ ∃ j : Nat, j < l.length ∧ fndAt f t k l = ((k + j : Nat) : Int)
  | [], k => .inl rfl
  | e :: l, k => by
    simp only [fndAt]
    split
    · exact .inr ⟨0, by simp, rfl⟩
    · rcases fndAt_rng f t l (k + 1) with h | ⟨j, h1, h2⟩
      · exact .inl h
      · exact .inr ⟨j + 1, by simp; omega, by rw [h2]; omega⟩
theorem cost_fnd (f t : Int) : ∀ (l : List Edg) (k : Nat), (fndAt f t k l = -1 ∧ costL f t l = (0, false)) ∨ ∃ j : Nat, ∃ h : j < l.length, fndAt f t k l = ((k + j : Nat) : Int) ∧ costL f t l = (l[j].c, true)
  | [], k => .inl ⟨rfl, rfl⟩
  | e :: l, k => by
    simp only [fndAt, costL]
    split
    · exact .inr ⟨0, by simp, rfl, rfl⟩
    · rcases cost_fnd f t l (k + 1) with h | ⟨j, h1, h2, h3⟩
      · exact .inl h
      · exact .inr ⟨j + 1, by simp; omega, by rw [h2]; omega, by simpa using h3⟩
end Go.Pl
namespace Go.Proofs.Ytdbdajokdipmlaa
open Go Go.RT Go.Proofs Go.Pl
set_option linter.all false
set_option maxRecDepth 20000
abbrev OG (g : Gr) : Option Ob := some (.flat 3 [encG g])
theorem prev_row {l : List Edg} {i : Nat} (h0 : 0 < i) (h : i ≤ l.length) : ∃ q, prevO l i = some q ∧ (l.map encE)[i - 1]? = some (encE q) := by
  have h1 : i - 1 < l.length := by omega
  exact ⟨l[i - 1], by simp [prevO, h1]; omega, row_at' encE l (i - 1) h1⟩
theorem check_c (g : Gr) (hg : okG g) : Pure Try.prog 13 [.agg (encG g)] (If .i64 (checkI g)) := by
  unfold checkI
  refine Meets.intro Try.func13 rfl (Nat.le_of_ble_eq_true rfl) fun C hC => ?_
  simp only [List.map, argEnv, Nat.reduceAdd]
  refine nK ?_
  refine s_reg rfl ?_
  first | refine Run.eff (dd := some 1) rfl rfl (op_box_flat rfl (Opd.tmp _ _ rfl) tC rfl) ?_ | refine Run.eff (dd := some 1) rfl rfl (op_box_refs rfl (Opd.tmp _ _ rfl) tP rfl) ?_
  first | refine Run.pure (dd := some 2) rfl rfl (op_assign rfl (Opd.const _)) ?_ | refine Run.pure (dd := some 2) rfl rfl (op_junk (.inr rfl)) ?_
  refine Run.nil (FinR.mk ?_)
  refine nK ?_
  refine s_reg rfl ?_
  first | refine Run.load (dd := some 7) rfl rfl (op_loadw_flat rfl (Opd.tmp _ _ rfl) tH rfl) ?_ | refine Run.pure (dd := some 7) rfl rfl (op_loadw_fz rfl (Opd.tmp _ _ rfl) rfl) ?_ | refine Run.load (dd := some 7) rfl rfl (op_loadn_flat rfl (Opd.tmp _ _ rfl) tH tR tR) ?_ | refine Run.pure (dd := some 7) rfl rfl (op_loadn_fz rfl (Opd.tmp _ _ rfl) tR) ?_ | refine Run.load (dd := some 7) rfl rfl (op_loadn_refs rfl (Opd.tmp _ _ rfl) tH tR tR) ?_
  refine Run.pure (dd := some 8) rfl rfl (op_call_pure (fun _ => size_c _ (by assumption)) rfl (Opd.func _) (Opds.cons _ _ _ _ (Opd.tmp _ _ rfl) Opds.nil)) ?_
  first | refine Run.pure (dd := some 3) rfl rfl (op_assign rfl (Opd.tmp _ _ rfl)) ?_ | refine Run.pure (dd := some 3) rfl rfl (op_junk (.inr rfl)) ?_
  refine Run.nil (FinR.mk ?_)
  refine nK ?_
  refine s_reg rfl ?_
  first | refine Run.pure (dd := some 9) rfl rfl (op_move rfl (Opd.tmp _ _ rfl)) ?_ | refine Run.pure (dd := some 9) rfl rfl (op_junk (.inl rfl)) ?_
  refine Run.pure (dd := some 10) rfl rfl (op_neq rfl (Opd.tmp _ _ rfl) (Opd.const _)) ?_
  refine Run.nil (FinR.mk ?_)
  refine nK ?_
  refine n_cond _ rfl (fun hb => ?_) (fun hb => ?_)
  · rw [if_pos (by simpa using hb)]
    refine nK ?_
    refine s_reg rfl ?_
    first | refine Run.pure (dd := some 11) rfl rfl (op_move rfl (Opd.tmp _ _ rfl)) ?_ | refine Run.pure (dd := some 11) rfl rfl (op_junk (.inl rfl)) ?_
    first | refine Run.pure (dd := some 2) rfl rfl (op_assign rfl (Opd.tmp _ _ rfl)) ?_ | refine Run.pure (dd := some 2) rfl rfl (op_junk (.inr rfl)) ?_
    refine Run.nil (FinR.mk ?_)
    refine nK ?_
    (first | exact s_o1 hC rfl tV | exact s_o2 hC rfl tV tV | exact s_o3 hC rfl tV tV tV | exact s_out0 hC rfl | exact s_outO hC rfl rfl rfl)
  · have hz : sizeI g = 0 := by simpa using hb
    rw [if_neg (by simp [hz])]
    obtain ⟨hs, hlen⟩ := sizeI_ok hz
    refine nK ?_
    refine s_reg rfl ?_
    first | refine Run.pure (dd := some 12) rfl rfl (op_fld_ptr (by decide) rfl (Opd.tmp _ _ rfl)) ?_ | refine Run.pure (dd := some 12) rfl rfl (op_fld_fz (by decide) rfl (Opd.tmp _ _ rfl) tR) ?_
    first | refine Run.load (dd := some 13) rfl rfl (op_load1_flat rfl (Opd.tmp _ _ rfl) tH rfl) ?_ | refine Run.pure (dd := some 13) rfl rfl (op_load1_fz rfl (Opd.tmp _ _ rfl) rfl) ?_ | refine Run.load (dd := some 13) rfl rfl (op_load1_refs rfl (Opd.tmp _ _ rfl) tH rfl) ?_
    first | refine Run.pure (dd := some 14) rfl rfl (op_len_fz rfl (by first | exact Opd.tmp _ _ rfl | exact Opd.nil _ _ (Opd.tmp _ _ rfl)) (by first | exact List.length_map _ | rfl)) ?_ | refine Run.pure (dd := some 14) rfl rfl (op_len_sl rfl (Opd.tmp _ _ rfl)) ?_
    first | refine Run.pure (dd := some 15) rfl rfl (op_move rfl (Opd.const _)) ?_ | refine Run.pure (dd := some 15) rfl rfl (op_junk (.inl rfl)) ?_
    refine Run.nil (FinR.mk ?_)
    refine nK ?_
    refine n_loop (ι := Nat) (fun i => ([(1, .ptr 0 3 0 0), (13, .fz (VE g.es)), (14, IV .i64 g.es.length), (15, IV .i64 i)], [(0, OG g)], 1)) (fun i => i ≤ g.es.length ∧ chkL g (prevO g.es i) (g.es.drop i) = chkL g none g.es) (fun i => g.es.length - i) 0 ⟨Nat.zero_le _, rfl⟩ ?_ ?_
    · refine Next.weakS [1] [] (by rfl) (by first | exact keeps0 hC _ | exact keepsN hC _ rfl) (by repeat (first | exact trivial | refine ⟨⟨_, rfl, .inl ⟨rfl, rfl⟩⟩, ?_⟩ | refine ⟨⟨_, rfl, .inl ⟨slEq rfl tN, rfl⟩⟩, ?_⟩ | refine ⟨⟨_, rfl, .inl ⟨ivEq tX, rfl⟩⟩, ?_⟩)) (by repeat (first | exact trivial | refine ⟨ent_same rfl rfl rfl tL, ?_⟩ | refine ⟨ent_same rfl rfl (rfEq rfl tU) tL, ?_⟩ | refine ⟨ent_same rfl rfl (flEq rfl (by first | (simp; done) | (simp; omega) | (simp [encE]; done) | simp [maxC, minC])) trivial, ?_⟩)) rfl (rel_intro)
    · intro i ⟨hi, ho⟩ K hK
      refine nK ?_
      refine s_reg rfl ?_
      refine Run.pure (dd := some 16) rfl rfl (op_lss rfl (Opd.tmp _ _ rfl) (Opd.tmp _ _ rfl)) ?_
      refine Run.nil (FinR.mk ?_)
      refine nK ?_
      refine n_cond _ rfl (fun hb => ?_) (fun hb => ?_)
      · have hlt : i < g.es.length := by simp at hb; omega
        have hr1 := row_at' encE g.es i hlt
        rw [chk_step hlt] at ho
        have hK1 := fun h => hK (i + 1) ⟨by omega, h⟩ (by omega)
        refine nK ?_
        refine s_reg rfl ?_
        first | refine Run.pure (dd := some 17) rfl rfl (op_move rfl (Opd.tmp _ _ rfl)) ?_ | refine Run.pure (dd := some 17) rfl rfl (op_junk (.inl rfl)) ?_
        first | refine Run.pure (dd := some 18) rfl rfl (op_idx_sl0 _ rfl (Opd.tmp _ _ rfl) (Opd.tmp _ _ rfl) tD) ?_ | refine Run.pure (dd := some 18) rfl rfl (op_idx_fz _ rfl (Opd.tmp _ _ rfl) (Opd.tmp _ _ rfl) tF) ?_
        first | refine Run.load (dd := some 19) rfl rfl (op_loadw_flat rfl (Opd.tmp _ _ rfl) tH rfl) ?_ | refine Run.pure (dd := some 19) rfl rfl (op_loadw_fz rfl (Opd.tmp _ _ rfl) rfl) ?_ | refine Run.load (dd := some 19) rfl rfl (op_loadn_flat rfl (Opd.tmp _ _ rfl) tH tR tR) ?_ | refine Run.pure (dd := some 19) rfl rfl (op_loadn_fz rfl (Opd.tmp _ _ rfl) tR) ?_ | refine Run.load (dd := some 19) rfl rfl (op_loadn_refs rfl (Opd.tmp _ _ rfl) tH tR tR) ?_
        refine Run.eff (dd := some 5) rfl rfl (op_alloc rfl rfl rfl rfl) ?_
        first | refine Run.pure (dd := some 4) rfl rfl (op_assign rfl (Opd.tmp _ _ rfl)) ?_ | refine Run.pure (dd := some 4) rfl rfl (op_junk (.inr rfl)) ?_
        first | refine Run.eff (dd := none) rfl rfl (op_store_flat rfl (Opd.tmp _ _ rfl) (Opd.tmp _ _ rfl) tC rfl rfl (by first | rfl | assumption) tS) ?_ | refine Run.eff (dd := none) rfl rfl (op_store_refs rfl (Opd.tmp _ _ rfl) (Opd.tmp _ _ rfl) tP rfl rfl rfl tS) ?_
        refine Run.nil (FinR.mk ?_)
        refine nK ?_
        refine s_reg rfl ?_
        first | refine Run.load (dd := some 20) rfl rfl (op_loadw_flat rfl (Opd.tmp _ _ rfl) tH rfl) ?_ | refine Run.pure (dd := some 20) rfl rfl (op_loadw_fz rfl (Opd.tmp _ _ rfl) rfl) ?_ | refine Run.load (dd := some 20) rfl rfl (op_loadn_flat rfl (Opd.tmp _ _ rfl) tH tR tR) ?_ | refine Run.pure (dd := some 20) rfl rfl (op_loadn_fz rfl (Opd.tmp _ _ rfl) tR) ?_ | refine Run.load (dd := some 20) rfl rfl (op_loadn_refs rfl (Opd.tmp _ _ rfl) tH tR tR) ?_
        first | refine Run.load (dd := some 21) rfl rfl (op_loadw_flat rfl (Opd.tmp _ _ rfl) tH rfl) ?_ | refine Run.pure (dd := some 21) rfl rfl (op_loadw_fz rfl (Opd.tmp _ _ rfl) rfl) ?_ | refine Run.load (dd := some 21) rfl rfl (op_loadn_flat rfl (Opd.tmp _ _ rfl) tH tR tR) ?_ | refine Run.pure (dd := some 21) rfl rfl (op_loadn_fz rfl (Opd.tmp _ _ rfl) tR) ?_ | refine Run.load (dd := some 21) rfl rfl (op_loadn_refs rfl (Opd.tmp _ _ rfl) tH tR tR) ?_
        refine Run.pure (dd := some 22) rfl rfl (op_call_pure (fun _ => allowed_c _ _ (by assumption)) rfl (Opd.func _) (Opds.cons _ _ _ _ (Opd.tmp _ _ rfl) (Opds.cons _ _ _ _ (Opd.tmp _ _ rfl) Opds.nil))) ?_
        first | refine Run.pure (dd := some 6) rfl rfl (op_assign rfl (Opd.tmp _ _ rfl)) ?_ | refine Run.pure (dd := some 6) rfl rfl (op_junk (.inr rfl)) ?_
        refine Run.nil (FinR.mk ?_)
        refine nK ?_
        refine s_reg rfl ?_
        first | refine Run.pure (dd := some 23) rfl rfl (op_move rfl (Opd.tmp _ _ rfl)) ?_ | refine Run.pure (dd := some 23) rfl rfl (op_junk (.inl rfl)) ?_
        refine Run.pure (dd := some 24) rfl rfl (op_neq rfl (Opd.tmp _ _ rfl) (Opd.const _)) ?_
        refine Run.nil (FinR.mk ?_)
        refine nK ?_
        refine n_cond _ rfl (fun hb => ?_) (fun hb => ?_)
        · have ha : alwI g g.es[i] ≠ 0 := by simpa using hb
          rw [if_pos ha] at ho
          rw [← ho]
          refine nK ?_
          refine s_reg rfl ?_
          first | refine Run.pure (dd := some 25) rfl rfl (op_move rfl (Opd.tmp _ _ rfl)) ?_ | refine Run.pure (dd := some 25) rfl rfl (op_junk (.inl rfl)) ?_
          first | refine Run.pure (dd := some 2) rfl rfl (op_assign rfl (Opd.tmp _ _ rfl)) ?_ | refine Run.pure (dd := some 2) rfl rfl (op_junk (.inr rfl)) ?_
          refine Run.nil (FinR.mk ?_)
          refine nK ?_
          (first | exact s_o1 hC rfl tV | exact s_o2 hC rfl tV tV | exact s_o3 hC rfl tV tV tV | exact s_out0 hC rfl | exact s_outO hC rfl rfl rfl)
        · have ha : ¬ alwI g g.es[i] ≠ 0 := by simpa using hb
          rw [if_neg ha] at ho
          have hp : ∃ q, (0 < i → prevO g.es i = some q ∧ (g.es.map encE)[i - 1]? = some (encE q)) := by
            by_cases h0 : 0 < i
            · obtain ⟨q, h1, h2⟩ := prev_row h0 hi
              exact ⟨q, fun _ => ⟨h1, h2⟩⟩
            · exact ⟨⟨0, 0, 0⟩, fun h => absurd h h0⟩
          obtain ⟨q, hq⟩ := hp
          refine nK ?_
          refine s_draw mixed ?_
          first | refine Run.pure (dd := some 26) rfl rfl (op_move rfl (Opd.tmp _ _ rfl)) ?_ | refine Run.pure (dd := some 26) rfl rfl (op_junk (.inl rfl)) ?_
          refine Run.pure (dd := some 27) rfl rfl (op_gtr rfl (Opd.tmp _ _ rfl) (Opd.const _)) ?_
          first | refine Run.pure (dd := some 28) rfl rfl (op_move rfl (Opd.tmp _ _ rfl)) ?_ | refine Run.pure (dd := some 28) rfl rfl (op_junk (.inl rfl)) ?_
          first | refine Run.pureG (dd := some 29) rfl rfl rfl tG (op_fld_ptr (by decide) rfl (Opd.tmp _ _ rfl)) ?_ | refine Run.pureG (dd := some 29) rfl rfl rfl tG (op_fld_fz (by decide) rfl (Opd.tmp _ _ rfl) tR) ?_
          first | refine Run.loadG (dd := some 30) rfl rfl rfl tG (op_load1_flat rfl (Opd.topt _ _ _ rfl tO) tH rfl) ?_ | refine Run.pureG (dd := some 30) rfl rfl rfl tG (op_load1_fz rfl (Opd.topt _ _ _ rfl tO) rfl) ?_ | refine Run.loadG (dd := some 30) rfl rfl rfl tG (op_load1_refs rfl (Opd.topt _ _ _ rfl tO) tH rfl) ?_
          first | refine Run.pureG (dd := some 31) rfl rfl rfl tG (op_move rfl (Opd.tmp _ _ rfl)) ?_ | refine Run.pureG (dd := some 31) rfl rfl rfl tG (op_junk (.inl rfl)) ?_
          refine Run.pureG (dd := some 32) rfl rfl rfl tG (op_sub rfl (Opd.topt _ _ _ rfl tO) (Opd.const _) tI) ?_
          refine Run.pureG (dd := some 33) rfl rfl rfl tG (op_idx_fz (i - 1) rfl (Opd.topt _ _ _ rfl tO) (Opd.topt _ _ _ rfl tO) (by intro hg; have h0 : 0 < i := (by simp at hg; omega); exact ⟨by omega, (hq h0).2⟩)) ?_
          first | refine Run.loadG (dd := some 34) rfl rfl rfl tG (op_loadw_flat rfl (Opd.topt _ _ _ rfl tO) tH rfl) ?_ | refine Run.pureG (dd := some 34) rfl rfl rfl tG (op_loadw_fz rfl (Opd.topt _ _ _ rfl tO) rfl) ?_ | refine Run.loadG (dd := some 34) rfl rfl rfl tG (op_loadn_flat rfl (Opd.topt _ _ _ rfl tO) tH tR tR) ?_ | refine Run.pureG (dd := some 34) rfl rfl rfl tG (op_loadn_fz rfl (Opd.topt _ _ _ rfl tO) tR) ?_ | refine Run.loadG (dd := some 34) rfl rfl rfl tG (op_loadn_refs rfl (Opd.topt _ _ _ rfl tO) tH tR tR) ?_
          first | refine Run.loadG (dd := some 35) rfl rfl rfl tG (op_loadw_flat rfl (Opd.tmp _ _ rfl) tH rfl) ?_ | refine Run.pureG (dd := some 35) rfl rfl rfl tG (op_loadw_fz rfl (Opd.tmp _ _ rfl) rfl) ?_ | refine Run.loadG (dd := some 35) rfl rfl rfl tG (op_loadn_flat rfl (Opd.tmp _ _ rfl) tH tR tR) ?_ | refine Run.pureG (dd := some 35) rfl rfl rfl tG (op_loadn_fz rfl (Opd.tmp _ _ rfl) tR) ?_ | refine Run.loadG (dd := some 35) rfl rfl rfl tG (op_loadn_refs rfl (Opd.tmp _ _ rfl) tH tR tR) ?_
          refine Run.pureG (dd := some 36) rfl rfl rfl tG (op_call_pure (fun _ => order_c _ _) rfl (Opd.func _) (Opds.cons _ _ _ _ (Opd.topt _ _ _ rfl tO) (Opds.cons _ _ _ _ (Opd.topt _ _ _ rfl tO) Opds.nil))) ?_
          refine Run.pureG (dd := some 37) rfl rfl rfl tG (op_geq rfl (Opd.topt _ _ _ rfl tO) (Opd.const _)) ?_
          refine Run.pure (dd := some 38) rfl rfl (op_pick_and rfl (Opd.tmp _ _ rfl) (Opd.topt _ _ _ rfl tO)) ?_
          refine Run.nil (FinD.mk (by kernel_rfl) ?_)
          refine nK ?_
          refine n_cond _ rfl (fun hb => ?_) (fun hb => ?_)
          · have h0 : 0 < i := by simp at hb; omega
            rw [(hq h0).1, if_pos (by rw [ordE_ge] at hb; simp at hb; simpa [badP] using hb.2)] at ho
            rw [← ho]
            refine nK ?_
            refine s_reg rfl ?_
            first | refine Run.pure (dd := some 2) rfl rfl (op_assign rfl (Opd.const _)) ?_ | refine Run.pure (dd := some 2) rfl rfl (op_junk (.inr rfl)) ?_
            refine Run.nil (FinR.mk ?_)
            refine nK ?_
            (first | exact s_o1 hC rfl tV | exact s_o2 hC rfl tV tV | exact s_o3 hC rfl tV tV tV | exact s_out0 hC rfl | exact s_outO hC rfl rfl rfl)
          · have hc : ¬ badP (prevO g.es i) g.es[i] = true := by
              by_cases h0 : 0 < i
              · rw [(hq h0).1]; rw [ordE_ge] at hb; simp [h0, badP] at hb ⊢; exact hb
              · have : i = 0 := by omega
                subst this; simp [prevO, badP]
            rw [if_neg hc] at ho
            refine nK ?_
            refine s_reg rfl ?_
            refine Run.pure (dd := some 39) rfl rfl (op_add rfl (Opd.tmp _ _ rfl) (Opd.const _) tI) ?_
            first | refine Run.pure (dd := some 15) rfl rfl (op_move rfl (Opd.tmp _ _ rfl)) ?_ | refine Run.pure (dd := some 15) rfl rfl (op_junk (.inl rfl)) ?_
            refine Run.nil (FinR.mk ?_)
            refine nK ?_
            refine Next.weakS [1] [] (by rfl) (by first | exact keeps0 hC _ | exact keepsN hC _ rfl) (by repeat (first | exact trivial | refine ⟨⟨_, rfl, .inl ⟨rfl, rfl⟩⟩, ?_⟩ | refine ⟨⟨_, rfl, .inl ⟨slEq rfl tN, rfl⟩⟩, ?_⟩ | refine ⟨⟨_, rfl, .inl ⟨ivEq tX, rfl⟩⟩, ?_⟩)) (by repeat (first | exact trivial | refine ⟨ent_same rfl rfl rfl tL, ?_⟩ | refine ⟨ent_same rfl rfl (rfEq rfl tU) tL, ?_⟩ | refine ⟨ent_same rfl rfl (flEq rfl (by first | (simp; done) | (simp; omega) | (simp [encE]; done) | simp [maxC, minC])) trivial, ?_⟩)) rfl ((hK1 ho))
      · have hie : i = g.es.length := by simp at hb; omega
        rw [hie, List.drop_length] at ho
        rw [← ho]
        simp only [chkL]
        refine nK ?_
        refine s_reg rfl ?_
        first | refine Run.pure (dd := some 2) rfl rfl (op_assign rfl (Opd.const _)) ?_ | refine Run.pure (dd := some 2) rfl rfl (op_junk (.inr rfl)) ?_
        refine Run.nil (FinR.mk ?_)
        refine nK ?_
        (first | exact s_o1 hC rfl tV | exact s_o2 hC rfl tV tV | exact s_o3 hC rfl tV tV tV | exact s_out0 hC rfl | exact s_outO hC rfl rfl rfl)
end Go.Proofs.Ytdbdajokdipmlaa
namespace Go.Proofs.Ytdbdajokdipmlaa
open Go Go.RT Go.Proofs Go.Pl
set_option linter.all false
set_option maxRecDepth 20000
abbrev OI (l : List Int) : Option Ob := some (.flat 1 (l.map encN))
abbrev OE (l : List Edg) : Option Ob := some (.flat 3 (l.map encE))
abbrev OB (l : List Bool) : Option Ob := some (.flat 1 (l.map encB))
theorem same_step {α : Type} [DecidableEq α] {a b : List α} {i : Nat} (ha : i < a.length) (hb : i < b.length) : (a.drop i = b.drop i) ↔ a[i] = b[i] ∧ a.drop (i + 1) = b.drop (i + 1) := by
  rw [List.drop_eq_getElem_cons ha, List.drop_eq_getElem_cons hb, List.cons.injEq]
theorem same_c (a b : Gr) (ha : a.es.length ≤ 2000000) (hb0 : b.es.length ≤ 2000000) : Pure Try.prog 5 [.agg (encG a), .agg (encG b)] (Bf (decide (a = b))) := by
  refine Meets.intro Try.func5 rfl (Nat.le_of_ble_eq_true rfl) fun C hC => ?_
  simp only [List.map, argEnv, Nat.reduceAdd]
  refine nK ?_
  refine s_reg rfl ?_
  first | refine Run.eff (dd := some 2) rfl rfl (op_box_flat rfl (Opd.tmp _ _ rfl) tC rfl) ?_ | refine Run.eff (dd := some 2) rfl rfl (op_box_refs rfl (Opd.tmp _ _ rfl) tP rfl) ?_
  first | refine Run.eff (dd := some 3) rfl rfl (op_box_flat rfl (Opd.tmp _ _ rfl) tC rfl) ?_ | refine Run.eff (dd := some 3) rfl rfl (op_box_refs rfl (Opd.tmp _ _ rfl) tP rfl) ?_
  first | refine Run.pure (dd := some 4) rfl rfl (op_assign rfl (Opd.const _)) ?_ | refine Run.pure (dd := some 4) rfl rfl (op_junk (.inr rfl)) ?_
  refine Run.nil (FinR.mk ?_)
  refine nK ?_
  refine s_reg rfl ?_
  first | refine Run.pure (dd := some 6) rfl rfl (op_fld_ptr (by decide) rfl (Opd.tmp _ _ rfl)) ?_ | refine Run.pure (dd := some 6) rfl rfl (op_fld_fz (by decide) rfl (Opd.tmp _ _ rfl) tR) ?_
  first | refine Run.load (dd := some 7) rfl rfl (op_load1_flat rfl (Opd.tmp _ _ rfl) tH rfl) ?_ | refine Run.pure (dd := some 7) rfl rfl (op_load1_fz rfl (Opd.tmp _ _ rfl) rfl) ?_ | refine Run.load (dd := some 7) rfl rfl (op_load1_refs rfl (Opd.tmp _ _ rfl) tH rfl) ?_
  first | refine Run.pure (dd := some 8) rfl rfl (op_fld_ptr (by decide) rfl (Opd.tmp _ _ rfl)) ?_ | refine Run.pure (dd := some 8) rfl rfl (op_fld_fz (by decide) rfl (Opd.tmp _ _ rfl) tR) ?_
  first | refine Run.load (dd := some 9) rfl rfl (op_load1_flat rfl (Opd.tmp _ _ rfl) tH rfl) ?_ | refine Run.pure (dd := some 9) rfl rfl (op_load1_fz rfl (Opd.tmp _ _ rfl) rfl) ?_ | refine Run.load (dd := some 9) rfl rfl (op_load1_refs rfl (Opd.tmp _ _ rfl) tH rfl) ?_
  refine Run.pure (dd := some 10) rfl rfl (op_neq rfl (Opd.tmp _ _ rfl) (Opd.tmp _ _ rfl)) ?_
  first | refine Run.pure (dd := some 11) rfl rfl (op_move rfl (Opd.tmp _ _ rfl)) ?_ | refine Run.pure (dd := some 11) rfl rfl (op_junk (.inl rfl)) ?_
  first | refine Run.pureG (dd := some 12) rfl rfl rfl tG (op_fld_ptr (by decide) rfl (Opd.tmp _ _ rfl)) ?_ | refine Run.pureG (dd := some 12) rfl rfl rfl tG (op_fld_fz (by decide) rfl (Opd.tmp _ _ rfl) tR) ?_
  first | refine Run.loadG (dd := some 13) rfl rfl rfl tG (op_load1_flat rfl (Opd.topt _ _ _ rfl tO) tH rfl) ?_ | refine Run.pureG (dd := some 13) rfl rfl rfl tG (op_load1_fz rfl (Opd.topt _ _ _ rfl tO) rfl) ?_ | refine Run.loadG (dd := some 13) rfl rfl rfl tG (op_load1_refs rfl (Opd.topt _ _ _ rfl tO) tH rfl) ?_
  first | refine Run.pureG (dd := some 14) rfl rfl rfl tG (op_fld_ptr (by decide) rfl (Opd.tmp _ _ rfl)) ?_ | refine Run.pureG (dd := some 14) rfl rfl rfl tG (op_fld_fz (by decide) rfl (Opd.tmp _ _ rfl) tR) ?_
  first | refine Run.loadG (dd := some 15) rfl rfl rfl tG (op_load1_flat rfl (Opd.topt _ _ _ rfl tO) tH rfl) ?_ | refine Run.pureG (dd := some 15) rfl rfl rfl tG (op_load1_fz rfl (Opd.topt _ _ _ rfl tO) rfl) ?_ | refine Run.loadG (dd := some 15) rfl rfl rfl tG (op_load1_refs rfl (Opd.topt _ _ _ rfl tO) tH rfl) ?_
  refine Run.pureG (dd := some 16) rfl rfl rfl tG (op_neq rfl (Opd.topt _ _ _ rfl tO) (Opd.topt _ _ _ rfl tO)) ?_
  refine Run.pure (dd := some 17) rfl rfl (op_pick_or rfl (Opd.tmp _ _ rfl) (Opd.topt _ _ _ rfl tO)) ?_
  first | refine Run.pure (dd := some 18) rfl rfl (op_move rfl (Opd.tmp _ _ rfl)) ?_ | refine Run.pure (dd := some 18) rfl rfl (op_junk (.inl rfl)) ?_
  first | refine Run.pureG (dd := some 19) rfl rfl rfl tG (op_fld_ptr (by decide) rfl (Opd.tmp _ _ rfl)) ?_ | refine Run.pureG (dd := some 19) rfl rfl rfl tG (op_fld_fz (by decide) rfl (Opd.tmp _ _ rfl) tR) ?_
  first | refine Run.loadG (dd := some 20) rfl rfl rfl tG (op_load1_flat rfl (Opd.topt _ _ _ rfl tO) tH rfl) ?_ | refine Run.pureG (dd := some 20) rfl rfl rfl tG (op_load1_fz rfl (Opd.topt _ _ _ rfl tO) rfl) ?_ | refine Run.loadG (dd := some 20) rfl rfl rfl tG (op_load1_refs rfl (Opd.topt _ _ _ rfl tO) tH rfl) ?_
  first | refine Run.pureG (dd := some 21) rfl rfl rfl tG (op_len_fz rfl (by first | exact Opd.topt _ _ _ rfl tO | exact Opd.nil _ _ (Opd.topt _ _ _ rfl tO)) (by first | exact List.length_map _ | rfl)) ?_ | refine Run.pureG (dd := some 21) rfl rfl rfl tG (op_len_sl rfl (Opd.topt _ _ _ rfl tO)) ?_
  first | refine Run.pureG (dd := some 22) rfl rfl rfl tG (op_fld_ptr (by decide) rfl (Opd.tmp _ _ rfl)) ?_ | refine Run.pureG (dd := some 22) rfl rfl rfl tG (op_fld_fz (by decide) rfl (Opd.tmp _ _ rfl) tR) ?_
  first | refine Run.loadG (dd := some 23) rfl rfl rfl tG (op_load1_flat rfl (Opd.topt _ _ _ rfl tO) tH rfl) ?_ | refine Run.pureG (dd := some 23) rfl rfl rfl tG (op_load1_fz rfl (Opd.topt _ _ _ rfl tO) rfl) ?_ | refine Run.loadG (dd := some 23) rfl rfl rfl tG (op_load1_refs rfl (Opd.topt _ _ _ rfl tO) tH rfl) ?_
  first | refine Run.pureG (dd := some 24) rfl rfl rfl tG (op_len_fz rfl (by first | exact Opd.topt _ _ _ rfl tO | exact Opd.nil _ _ (Opd.topt _ _ _ rfl tO)) (by first | exact List.length_map _ | rfl)) ?_ | refine Run.pureG (dd := some 24) rfl rfl rfl tG (op_len_sl rfl (Opd.topt _ _ _ rfl tO)) ?_
  refine Run.pureG (dd := some 25) rfl rfl rfl tG (op_neq rfl (Opd.topt _ _ _ rfl tO) (Opd.topt _ _ _ rfl tO)) ?_
  refine Run.pure (dd := some 26) rfl rfl (op_pick_or rfl (Opd.tmp _ _ rfl) (Opd.topt _ _ _ rfl tO)) ?_
  refine Run.nil (FinR.mk ?_)
  refine nK ?_
  refine n_cond _ rfl (fun hb => ?_) (fun hb => ?_)
  · have e : decide (a = b) = false := by
      rw [decide_eq_false_iff_not]; rintro rfl; simp at hb
    rw [e]
    refine nK ?_
    refine s_reg rfl ?_
    first | refine Run.pure (dd := some 4) rfl rfl (op_assign rfl (Opd.const _)) ?_ | refine Run.pure (dd := some 4) rfl rfl (op_junk (.inr rfl)) ?_
    refine Run.nil (FinR.mk ?_)
    refine nK ?_
    (first | exact s_o1 hC rfl tV | exact s_o2 hC rfl tV tV | exact s_o3 hC rfl tV tV tV | exact s_out0 hC rfl | exact s_outO hC rfl rfl rfl)
  · have hl : a.r = b.r ∧ a.n = b.n ∧ a.es.length = b.es.length := by simp at hb; omega
    obtain ⟨hr, hn, hl⟩ := hl
    have hab : a = b ↔ a.es = b.es := by
      constructor
      · rintro rfl; rfl
      · intro h; cases a; cases b; simp_all
    refine nK ?_
    refine s_reg rfl ?_
    first | refine Run.pure (dd := some 5) rfl rfl (op_assign rfl (Opd.const _)) ?_ | refine Run.pure (dd := some 5) rfl rfl (op_junk (.inr rfl)) ?_
    refine Run.nil (FinR.mk ?_)
    refine nK ?_
    refine n_loop (ι := Nat) (fun i => ([(2, .ptr 0 3 0 0), (3, .ptr 1 3 0 0), (5, IV .i64 i)], [(0, OG a), (1, OG b)], 2)) (fun i => i ≤ a.es.length ∧ (a = b ↔ a.es.drop i = b.es.drop i)) (fun i => a.es.length - i) 0 ⟨Nat.zero_le _, hab⟩ ?_ ?_
    · refine Next.weakS [2, 3] [] (by rfl) (by first | exact keeps0 hC _ | exact keepsN hC _ rfl) (by repeat (first | exact trivial | refine ⟨⟨_, rfl, .inl ⟨rfl, rfl⟩⟩, ?_⟩ | refine ⟨⟨_, rfl, .inl ⟨slEq rfl tN, rfl⟩⟩, ?_⟩ | refine ⟨⟨_, rfl, .inl ⟨ivEq tX, rfl⟩⟩, ?_⟩)) (by repeat (first | exact trivial | refine ⟨ent_same rfl rfl rfl tL, ?_⟩ | refine ⟨ent_same rfl rfl (rfEq rfl tU) tL, ?_⟩ | refine ⟨ent_same rfl rfl (flEq rfl (by first | (simp; done) | (simp; omega) | (simp [encE, encN, encB]; done) | simp [maxC, minC])) trivial, ?_⟩)) rfl (rel_intro)
    · intro i ⟨hi, ho⟩ K hK
      refine nK ?_
      refine s_reg rfl ?_
      first | refine Run.pure (dd := some 27) rfl rfl (op_move rfl (Opd.tmp _ _ rfl)) ?_ | refine Run.pure (dd := some 27) rfl rfl (op_junk (.inl rfl)) ?_
      first | refine Run.pure (dd := some 28) rfl rfl (op_fld_ptr (by decide) rfl (Opd.tmp _ _ rfl)) ?_ | refine Run.pure (dd := some 28) rfl rfl (op_fld_fz (by decide) rfl (Opd.tmp _ _ rfl) tR) ?_
      first | refine Run.load (dd := some 29) rfl rfl (op_load1_flat rfl (Opd.tmp _ _ rfl) tH rfl) ?_ | refine Run.pure (dd := some 29) rfl rfl (op_load1_fz rfl (Opd.tmp _ _ rfl) rfl) ?_ | refine Run.load (dd := some 29) rfl rfl (op_load1_refs rfl (Opd.tmp _ _ rfl) tH rfl) ?_
      first | refine Run.pure (dd := some 30) rfl rfl (op_len_fz rfl (by first | exact Opd.tmp _ _ rfl | exact Opd.nil _ _ (Opd.tmp _ _ rfl)) (by first | exact List.length_map _ | rfl)) ?_ | refine Run.pure (dd := some 30) rfl rfl (op_len_sl rfl (Opd.tmp _ _ rfl)) ?_
      refine Run.pure (dd := some 31) rfl rfl (op_lss rfl (Opd.tmp _ _ rfl) (Opd.tmp _ _ rfl)) ?_
      refine Run.nil (FinR.mk ?_)
      refine nK ?_
      refine n_cond _ rfl (fun hb => ?_) (fun hb => ?_)
      · have hlt : i < a.es.length := by simp at hb; omega
        have hlt2 : i < b.es.length := by omega
        rw [same_step hlt hlt2] at ho
        have hr1 := row_at' encE a.es i hlt
        have hr2 := row_at' encE b.es i hlt2
        have hK1 := fun h => hK (i + 1) ⟨by omega, h⟩ (by omega)
        generalize a.es[i] = x at *
        generalize b.es[i] = y at *
        refine nK ?_
        refine s_draw mixed ?_
        first | refine Run.pure (dd := some 34) rfl rfl (op_fld_ptr (by decide) rfl (Opd.tmp _ _ rfl)) ?_ | refine Run.pure (dd := some 34) rfl rfl (op_fld_fz (by decide) rfl (Opd.tmp _ _ rfl) tR) ?_
        first | refine Run.load (dd := some 35) rfl rfl (op_load1_flat rfl (Opd.tmp _ _ rfl) tH rfl) ?_ | refine Run.pure (dd := some 35) rfl rfl (op_load1_fz rfl (Opd.tmp _ _ rfl) rfl) ?_ | refine Run.load (dd := some 35) rfl rfl (op_load1_refs rfl (Opd.tmp _ _ rfl) tH rfl) ?_
        first | refine Run.pure (dd := some 36) rfl rfl (op_move rfl (Opd.tmp _ _ rfl)) ?_ | refine Run.pure (dd := some 36) rfl rfl (op_junk (.inl rfl)) ?_
        first | refine Run.pure (dd := some 37) rfl rfl (op_idx_sl0 _ rfl (Opd.tmp _ _ rfl) (Opd.tmp _ _ rfl) tD) ?_ | refine Run.pure (dd := some 37) rfl rfl (op_idx_fz _ rfl (Opd.tmp _ _ rfl) (Opd.tmp _ _ rfl) tF) ?_
        first | refine Run.load (dd := some 38) rfl rfl (op_loadw_flat rfl (Opd.tmp _ _ rfl) tH rfl) ?_ | refine Run.pure (dd := some 38) rfl rfl (op_loadw_fz rfl (Opd.tmp _ _ rfl) rfl) ?_ | refine Run.load (dd := some 38) rfl rfl (op_loadn_flat rfl (Opd.tmp _ _ rfl) tH tR tR) ?_ | refine Run.pure (dd := some 38) rfl rfl (op_loadn_fz rfl (Opd.tmp _ _ rfl) tR) ?_ | refine Run.load (dd := some 38) rfl rfl (op_loadn_refs rfl (Opd.tmp _ _ rfl) tH tR tR) ?_
        first | refine Run.pure (dd := some 39) rfl rfl (op_fld_ptr (by decide) rfl (Opd.tmp _ _ rfl)) ?_ | refine Run.pure (dd := some 39) rfl rfl (op_fld_fz (by decide) rfl (Opd.tmp _ _ rfl) tR) ?_
        first | refine Run.load (dd := some 40) rfl rfl (op_load1_flat rfl (Opd.tmp _ _ rfl) tH rfl) ?_ | refine Run.pure (dd := some 40) rfl rfl (op_load1_fz rfl (Opd.tmp _ _ rfl) rfl) ?_ | refine Run.load (dd := some 40) rfl rfl (op_load1_refs rfl (Opd.tmp _ _ rfl) tH rfl) ?_
        first | refine Run.pure (dd := some 41) rfl rfl (op_move rfl (Opd.tmp _ _ rfl)) ?_ | refine Run.pure (dd := some 41) rfl rfl (op_junk (.inl rfl)) ?_
        first | refine Run.pure (dd := some 42) rfl rfl (op_idx_sl0 _ rfl (Opd.tmp _ _ rfl) (Opd.tmp _ _ rfl) tD) ?_ | refine Run.pure (dd := some 42) rfl rfl (op_idx_fz _ rfl (Opd.tmp _ _ rfl) (Opd.tmp _ _ rfl) tF) ?_
        first | refine Run.load (dd := some 43) rfl rfl (op_loadw_flat rfl (Opd.tmp _ _ rfl) tH rfl) ?_ | refine Run.pure (dd := some 43) rfl rfl (op_loadw_fz rfl (Opd.tmp _ _ rfl) rfl) ?_ | refine Run.load (dd := some 43) rfl rfl (op_loadn_flat rfl (Opd.tmp _ _ rfl) tH tR tR) ?_ | refine Run.pure (dd := some 43) rfl rfl (op_loadn_fz rfl (Opd.tmp _ _ rfl) tR) ?_ | refine Run.load (dd := some 43) rfl rfl (op_loadn_refs rfl (Opd.tmp _ _ rfl) tH tR tR) ?_
        refine Run.pure (dd := some 44) rfl rfl (op_neS rfl (Opd.tmp _ _ rfl) (Opd.tmp _ _ rfl) (by kernel_rfl)) ?_
        refine Run.nil (FinD.mk (by kernel_rfl) ?_)
        refine nK ?_
        refine n_cond _ rfl (fun hb => ?_) (fun hb => ?_)
        · have e : decide (a = b) = false := by
            rw [decide_eq_false_iff_not, ho]; rw [eqFs_encE] at hb; simp at hb; exact fun h => hb h.1
          rw [e]
          refine nK ?_
          refine s_reg rfl ?_
          first | refine Run.pure (dd := some 4) rfl rfl (op_assign rfl (Opd.const _)) ?_ | refine Run.pure (dd := some 4) rfl rfl (op_junk (.inr rfl)) ?_
          refine Run.nil (FinR.mk ?_)
          refine nK ?_
          (first | exact s_o1 hC rfl tV | exact s_o2 hC rfl tV tV | exact s_o3 hC rfl tV tV tV | exact s_out0 hC rfl | exact s_outO hC rfl rfl rfl)
        · rw [eqFs_encE] at hb
          refine nK ?_
          refine s_reg rfl ?_
          first | refine Run.pure (dd := some 32) rfl rfl (op_move rfl (Opd.tmp _ _ rfl)) ?_ | refine Run.pure (dd := some 32) rfl rfl (op_junk (.inl rfl)) ?_
          refine Run.pure (dd := some 33) rfl rfl (op_add rfl (Opd.tmp _ _ rfl) (Opd.const _) tI) ?_
          first | refine Run.pure (dd := some 5) rfl rfl (op_assign rfl (Opd.tmp _ _ rfl)) ?_ | refine Run.pure (dd := some 5) rfl rfl (op_junk (.inr rfl)) ?_
          refine Run.nil (FinR.mk ?_)
          refine nK ?_
          refine Next.weakS [2, 3] [] (by rfl) (by first | exact keeps0 hC _ | exact keepsN hC _ rfl) (by repeat (first | exact trivial | refine ⟨⟨_, rfl, .inl ⟨rfl, rfl⟩⟩, ?_⟩ | refine ⟨⟨_, rfl, .inl ⟨slEq rfl tN, rfl⟩⟩, ?_⟩ | refine ⟨⟨_, rfl, .inl ⟨ivEq tX, rfl⟩⟩, ?_⟩)) (by repeat (first | exact trivial | refine ⟨ent_same rfl rfl rfl tL, ?_⟩ | refine ⟨ent_same rfl rfl (rfEq rfl tU) tL, ?_⟩ | refine ⟨ent_same rfl rfl (flEq rfl (by first | (simp; done) | (simp; omega) | (simp [encE, encN, encB]; done) | simp [maxC, minC])) trivial, ?_⟩)) rfl ((hK1 (ho.trans ⟨fun h => h.2, fun h => ⟨by simpa using hb, h⟩⟩)))
      · have hie : i = a.es.length := by simp at hb; omega
        have e : decide (a = b) = true := by
          rw [decide_eq_true_iff, ho, hie, List.drop_length, hl, List.drop_length]
        rw [e]
        refine nK ?_
        refine s_reg rfl ?_
        first | refine Run.pure (dd := some 4) rfl rfl (op_assign rfl (Opd.const _)) ?_ | refine Run.pure (dd := some 4) rfl rfl (op_junk (.inr rfl)) ?_
        refine Run.nil (FinR.mk ?_)
        refine nK ?_
        (first | exact s_o1 hC rfl tV | exact s_o2 hC rfl tV tV | exact s_o3 hC rfl tV tV tV | exact s_out0 hC rfl | exact s_outO hC rfl rfl rfl)
end Go.Proofs.Ytdbdajokdipmlaa
/- Runs of equal elements cut to one. -/
namespace Go.Pl
set_option linter.all false
def ddF {α : Type} (eq : α → α → Bool) : α → List α → List α
  | _, [] => []
  | p, x :: l => bif eq x p then ddF eq x l else x :: ddF eq x l
def compL {α : Type} (eq : α → α → Bool) : List α → List α
  | [] => []
  | x :: l => x :: ddF eq x l
def lastD {α : Type} : α → List α → α
  | p, [] => p
  | _, x :: l => lastD x l
theorem ddF_snoc {α : Type} (eq : α → α → Bool) (y : α) : ∀ (l : List α) (p : α), ddF eq p (l ++ [y]) = ddF eq p l ++ bif eq y (lastD p l) then [] else [y]
  | [], p => by simp [ddF, lastD]
  | x :: l, p => by
    simp only [List.cons_append, ddF, lastD, ddF_snoc eq y l x]
    cases eq x p <;> simp
theorem lastD_get {α : Type} : ∀ (l : List α) (p : α) , (p :: l)[l.length]? = some (lastD p l)
  | [], p => rfl
  | x :: l, p => by simpa [lastD] using lastD_get l x
theorem ddF_len {α : Type} (eq : α → α → Bool) : ∀ (l : List α) (p : α), (ddF eq p l).length ≤ l.length
  | [], _ => by simp [ddF]
  | x :: l, p => by
    have := ddF_len eq l x
    simp only [ddF, List.length_cons]; cases eq x p <;> simp <;> omega
theorem compL_len {α : Type} (eq : α → α → Bool) (l : List α) : (compL eq l).length ≤ l.length := by
  cases l with
  | nil => simp [compL]
  | cons x l => have := ddF_len eq l x; simp [compL]; omega
/-- one element more -/
theorem compL_take {α : Type} (eq : α → α → Bool) (l : List α) (n : Nat) (h0 : 0 < n) (h : n < l.length) : compL eq (l.take (n + 1)) = compL eq (l.take n) ++ bif eq l[n] l[n - 1] then [] else [l[n]] := by
  cases l with
  | nil => simp at h
  | cons x l =>
    obtain ⟨m, rfl⟩ : ∃ m, n = m + 1 := ⟨n - 1, by omega⟩
    have hm : m < l.length := by simpa using h
    rw [List.take_succ_cons, List.take_succ_cons]
    simp only [compL]
    rw [List.take_succ_eq_append_getElem hm, ddF_snoc]
    have hl : lastD x (l.take m) = (x :: l)[m]'(by simp; omega) := by
      have h1 := lastD_get (l.take m) x
      have e : (l.take m).length = m := by simp; omega
      rw [e, ← List.take_succ_cons, List.getElem?_take, if_pos (by omega), List.getElem?_eq_getElem (by simp; omega)] at h1
      exact (Option.some.inj h1).symm
    rw [hl]
    simp
theorem compL_len_lt {α : Type} (eq : α → α → Bool) (l : List α) (n : Nat) (h0 : 0 < n) (h : n < l.length) (he : eq l[n] l[n - 1] = true) (j : Nat) (hj : n < j) (hjl : j ≤ l.length) : (compL eq (l.take j)).length < j := by
  obtain ⟨d, rfl⟩ : ∃ d, j = n + 1 + d := ⟨j - (n + 1), by omega⟩
  clear hj
  induction d with
  | zero =>
    rw [Nat.add_zero, compL_take eq l n h0 h, he, cond_true, List.append_nil]
    have := compL_len eq (l.take n)
    simp at this; omega
  | succ d ih =>
    have := ih (by omega)
    rw [← Nat.add_assoc, compL_take eq l (n + 1 + d) (by omega) (by omega), List.length_append]
    cases eq l[n + 1 + d] l[n + 1 + d - 1] <;> simp <;> omega
theorem compL_one {α : Type} (eq : α → α → Bool) (l : List α) (h : 0 < l.length) : compL eq (l.take 1) = l.take 1 := by
  cases l with
  | nil => simp at h
  | cons x l => simp [compL, ddF]
/-- writing at the end of what is kept -/
theorem set_kept {α : Type} (c l : List α) (x : α) (h : c.length < l.length) : (c ++ l.drop c.length).set c.length x = (c ++ [x]) ++ l.drop (c ++ [x]).length := by
  have e := List.drop_eq_getElem_cons h
  rw [List.set_append, if_neg (by omega), Nat.sub_self, e, List.set_cons_zero]
  simp
theorem kept_get {α : Type} (c l : List α) (j : Nat) (h : c.length ≤ j) : (c ++ l.drop c.length)[j]? = l[j]? := by
  rw [List.getElem?_append, if_neg (by omega), List.getElem?_drop]; congr 1; omega
theorem kept_len {α : Type} (c l : List α) (h : c.length ≤ l.length) : (c ++ l.drop c.length).length = l.length := by simp; omega
end Go.Pl
/- The kit's contract of slices.SortFunc, turned into one of the engine's. -/
namespace Go.RT
open Go Go.Proofs Go.Sort Go.Shelf
set_option linter.all false
theorem Mem.reheap {C : Cx} {H H' : Hp} {nx : Nat} {S : Nat → Prop} {m : Ids} {w : World} (k1 : Mem C H nx S m w) (hh : ∀ id, hlook H' id = hlook H id) : Mem C H' nx S m w :=
  ⟨k1.os, k1.tape, k1.output, k1.fz, k1.size, k1.frame, k1.le, k1.sub, k1.n0, fun id o h => k1.objs id o ((hh id).symm.trans h), fun id o b h => k1.blk id o b ((hh id).symm.trans h), fun a b o1 o2 bb h1 h2 => k1.inj a b o1 o2 bb ((hh a).symm.trans h1) ((hh b).symm.trans h2), k1.stab, k1.fresh, k1.nkeep (Le.refl _ _ _) (Nat.le_refl _) (fun _ _ _ _ _ _ h => h.of fun o h => (hh _).symm.trans h) (fun _ _ _ _ _ _ _ c e _ _ _ k2 k3 => ⟨c, e, k2, k3⟩) (fun b' _ h2 h3 => ⟨rfl, h2, fun id2 o2 h => h3 _ _ ((hh id2).symm.trans h)⟩)⟩
def grown (w : World) (os : Array Obj) (q : Nat) : World := { w with heap := w.heap ++ os, drawn := w.drawn + q }
theorem grown_old (w : World) (os : Array Obj) (q : Nat) {b : Nat} (hb : b < w.heap.size) : (grown w os q).heap[b]? = w.heap[b]? := by simp [grown, Array.getElem?_append, hb]
theorem Mem.grow {C : Cx} {H : Hp} {nx : Nat} {S : Nat → Prop} {m : Ids} {w : World} (hm : Mem C H nx S m w) (os : Array Obj) (q : Nat) : Mem C H nx S m (grown w os q) ∧ Le S m w S m (grown w os q) := by
  have hsz : w.heap.size ≤ (grown w os q).heap.size := by simp [grown]
  have hle : Le S m w S m (grown w os q) := by
    refine ⟨fun _ h => h, fun b hb => grown_old w os q (hm.stab b hb), fun _ _ h => h, fun b n ⟨c, e, fr, h1, h2⟩ => ⟨c, e, fr, ?_, h2⟩⟩
    rw [grown_old w os q (Array.getElem?_eq_some_iff.1 h1).1]; exact h1
  refine ⟨hm.step hle ⟨rfl, Nat.le_add_right _ _⟩ rfl rfl (fun a ha => ?_) hsz (fun b hb _ => grown_old w os q (Nat.lt_of_lt_of_le hb hm.size)) (fun b hb => .inl hb) (fun id o ho => (hm.objs id o ho).mono hle fun b hb => grown_old w os q (hm.blk id o b ho hb).2.1)
    (fun id o b ho hb => ?_) hm.inj (fun b hb => Nat.lt_of_lt_of_le (hm.stab b hb) hsz) hm.fresh (hm.nkeep hle hsz (fun _ _ _ _ _ _ h => h) (fun id sz i j isz irows b2 c2 e2 u _ _ q2 q3 => ⟨c2, e2, (grown_old w os q (Array.getElem?_eq_some_iff.1 q2).1).trans q2, q3⟩) (fun b' h1 h2 h3 => ⟨grown_old w os q h1, h2, h3⟩)), hle⟩
  · simp only [World.frozen?, grown_old w os q ha]
  · obtain ⟨h1, h2, h3⟩ := hm.blk id o b ho hb
    exact ⟨h1, Nat.lt_of_lt_of_le h2 hsz, h3⟩
theorem mapBlock_setRow {w : World} {b : Nat} {c : Array Value} {e : TypeId} {fr : Nat × Nat} (f : Array Value → Array Value) (hc : w.heap[b]? = some (.cells c e fr)) : mapBlock w b f = w.setRow b (f c) := by
  unfold mapBlock World.setRow
  congr 1
  apply Array.ext_getElem?
  intro i
  simp only [Array.getElem?_modify]
  by_cases h : b = i
  · subst h
    simp [hc, onCells]
  · simp [h]
/-- a run that owns nothing: what it leaves is the world it found, grown -/
theorem Mem.is_grown {C : Cx} {nx : Nat} {S : Nat → Prop} {m : Ids} {w : World} (hm : Mem C [] nx S m w) (ho : ∀ b, ¬ C.own0 b) : ∃ q os, w = grown C.w0 os q := by
  refine ⟨w.drawn - C.w0.drawn, w.heap.extract C.w0.heap.size w.heap.size, ?_⟩
  have h1 : w.heap = C.w0.heap ++ w.heap.extract C.w0.heap.size w.heap.size := by
    apply Array.ext_getElem?
    intro i
    by_cases hi : i < C.w0.heap.size
    · rw [Array.getElem?_append_left hi]; exact hm.frame i hi (ho i)
    · rw [Array.getElem?_append_right (by omega), Array.getElem?_extract]
      have := hm.size
      by_cases h2 : i < w.heap.size
      · rw [if_pos (by simp; omega)]; congr 1; omega
      · rw [if_neg (by simp; omega)]; exact Array.getElem?_eq_none (by omega)
  have h2 : w.drawn = C.w0.drawn + (w.drawn - C.w0.drawn) := by have := hm.os.2; omega
  obtain ⟨heap, tape, drawn, os, output⟩ := w
  unfold grown
  simp only at h1 h2
  have e1 := hm.tape; have e2 := hm.os.1; have e3 := hm.output
  simp only at e1 e2 e3
  subst e1 e2 e3
  simp only [World.mk.injEq, true_and, and_true]
  exact ⟨h1, h2⟩
/-- what slices.SortFunc leaves -/
def sortBy {β : Type} [Inhabited β] (cf : β → β → Int) (l : List β) : List β := (pdq (ltOf cf) l.toArray 0 l.length (Lib.bitLen l.length) true true).toList
theorem sortBy_spec {β : Type} [Inhabited β] (cf : β → β → Int) (hO : SWO (ltOf cf)) (l : List β) : (sortBy cf l).Perm l ∧ (sortBy cf l).length = l.length ∧ ∀ (i j : Nat) (x y : β), i < j → (sortBy cf l)[i]? = some x → (sortBy cf l)[j]? = some y → ¬ cf y x < 0 := by
  have h := pdq_sorts (ltOf cf) hO l.toArray 0 l.length (Lib.bitLen l.length) true true (Nat.zero_le _) (by simp) (Or.inl rfl)
  obtain ⟨⟨p1, p2, p3⟩, p4⟩ := h
  have e : (sortBy cf l).length = l.length := by simpa [sortBy] using p1
  refine ⟨?_, e, fun i j x y hij hx hy => ?_⟩
  · have : ∀ (a : Array β) n, a.size = n → a.extract 0 n = a := fun a n hn => by subst hn; simp
    rw [this _ _ (by simpa using p1), this _ _ (by simp)] at p3
    simpa [sortBy] using p3
  · have hj : j < l.length := by rw [← e]; exact (List.getElem?_eq_some_iff.1 hy).1
    have hj' : j < (pdq (ltOf cf) l.toArray 0 l.length (Lib.bitLen l.length) true true).size := by rw [p1]; simpa using hj
    have := p4 i j (Nat.zero_le _) hij hj
    rw [getElem!_pos _ j hj', getElem!_pos _ i (by omega)] at this
    simp only [sortBy, Array.getElem?_toList] at hx hy
    rw [Array.getElem?_eq_getElem (by omega)] at hx hy
    cases hx; cases hy
    simpa [ltOf] using this
theorem cells_of_rows {w : World} {S : Nat → Prop} {c : Array Value} {k : Nat} {β : Type} [Inhabited β] {ev : β → List Value} (hk0 : 0 < k) (hlen : ∀ x, (ev x).length = k) {l : List β} (h : RowsRep (FRep w S) c k (l.map fun x => (ev x).map FV.lit)) :
    l.length * k ≤ c.size ∧ ∀ j, j < l.length * k → c[j]? = some (flatK ev k l.toArray)[j]! := by
  refine ⟨by simpa using h.1, fun j hj => ?_⟩
  have hd : j / k < l.length := Nat.div_lt_of_lt_mul (by rwa [Nat.mul_comm] at hj)
  have hm := Nat.mod_lt j hk0
  rw [get_flatK _ _ _ _ (by simpa using hj)]
  have hx : (l.map fun x => (ev x).map FV.lit)[j / k]? = some ((ev l[j / k]).map FV.lit) := by simp [hd]
  have hlk : j % k < (ev l[j / k]).length := by rw [hlen]; exact hm
  obtain ⟨u, hu, _, hr⟩ := h.2.2 (j / k) (j % k) _ (.lit (ev l[j / k])[j % k]) hx (by simp [hlk])
  have e : j / k * k + j % k = j := by rw [Nat.mul_comm]; exact Nat.div_add_mod j k
  rw [e] at hu
  rw [hu]
  cases hr
  rw [getElem!_pos _ (j / k) (by simpa using hd), getElem!_pos _ (j % k) (by simpa using hlk)]
  simp
variable {P : Program} {ρ : Ren}
theorem cmp_lays {g k : Nat} {β : Type} [Inhabited β] {ev : β → List Value} (h1 : ∀ x, ∀ v ∈ ev x, v.oneCell' = true) {cf : β → β → Int} (hc : ∀ x y, Pure P g [.agg ((ev x).map .lit), .agg ((ev y).map .lit)] (If .i64 (cf x y))) (blk off size : Nat) (w : World) : CmpLays P g #[] ev k cf blk off size w := by
  intro m os dk _ x y
  generalize sortWorldK ev k w blk off m dk os = W
  let C : Cx := ⟨W, fun _ => False, fun _ => False, fun _ => none, 0⟩
  have hm : Mem C [] 0 C.S0 C.m0 C.w0 := ⟨⟨rfl, Nat.le_refl _⟩, rfl, rfl, fun _ _ => rfl, Nat.le_refl _, fun _ _ _ => rfl, Le.refl _ _ _, fun b h => .inl h, fun i x hx => (by cases hx), fun i o h => (by cases h), fun i o b h => (by cases h), fun i j o1 o2 b h => (by cases h), fun b hb => hb.elim, fun _ _ => rfl, nst_nil⟩
  have ag : ∀ z, FRep W (fun _ => False) (.agg (ev z).toArray) (.agg ((ev z).map .lit)) := fun z => by
    refine .agg _ _ (by simp) (fun i c f hc hf => ?_) (fun i c hc => ?_)
    · simp only [List.getElem?_toArray] at hc
      rw [List.getElem?_map, hc] at hf
      cases hf; exact .lit _
    · simp only [List.getElem?_toArray] at hc
      exact h1 z c (List.mem_of_getElem? hc)
  have := (hc x y).run C [.agg (ev x).toArray, .agg (ev y).toArray] rfl hm rfl (fun i v p hi hp => by
    match i with
    | 0 => simp at hi hp; subst hi; subst hp; exact .fz _ _ (ag x)
    | 1 => simp at hi hp; subst hi; subst hp; exact .fz _ _ (ag y)
    | i + 2 => simp at hi)
  have h2 : Calls P g (#[.agg (ev x).toArray, .agg (ev y).toArray] ++ #[]) W (fun e w' => ∃ v S' m', e = .returned v ∧ Mem C [] 0 S' m' w' ∧ Rep w' S' m' v (.fz (If .i64 (cf x y)))) := by simpa using this
  refine h2.mono fun e w' ⟨v, S', m', he, hm', hr⟩ => ?_
  obtain ⟨q, os', hw⟩ := hm'.is_grown (fun b h => h)
  refine ⟨by rw [he]; cases hr with | fz _ _ h => cases h; rfl, q, os', hw⟩
theorem sort_meets (L : SlLaysF0.n6 P ρ) {k : Nat} (hk0 : 0 < k) (aE : ∀ w, (isAgg (ρ.t 24)).run P w = .ok true w) (zE : ∀ w, (Go.sizeOf (ρ.t 24)).run P w = .ok k w) {β : Type} [Inhabited β] {ev : β → List Value} (hlen : ∀ x, (ev x).length = k) (h1 : ∀ x, ∀ v ∈ ev x, v.oneCell' = true) {cf : β → β → Int} (hO : SWO (ltOf cf)) {g : Nat} (hg : ∀ args w, (callFunc g args).run P w = .ok (.enter g args) w)
    (hc : ∀ x y, Pure P g [.agg ((ev x).map .lit), .agg ((ev y).map .lit)] (If .i64 (cf x y))) {l : List β} (hl : l.length < 4611686018427387904) :
    Meets P (ρ.f 6) [.sl 0 k 0 l.length, .clo g [] []] 1 [(0, some (.flat k (l.map fun x => (ev x).map .lit)))] (.fz (.tup [])) [(0, some (.flat k ((sortBy cf l).map fun x => (ev x).map .lit)))] 1 := by
  refine ⟨fun C vs hn hm hlv hr => ?_⟩
  have tupR : ∀ w' S' m', Rep w' S' m' (.tuple #[]) (.fz (.tup [])) := fun w' S' m' => .fz _ _ (.tup #[] [] rfl (fun i c f hc => by simp at hc))
  match vs, hlv, hr with
  | [v0, v1], _, hr =>
  have r0 := hr 0 v0 _ rfl rfl
  have r1 := hr 1 v1 _ rfl rfl
  have ho := hm.objs 0 _ rfl
  obtain ⟨hs1, hs2, _⟩ := sortBy_spec cf hO l
  cases r1 with
  | clo _ as' cs _ _ ha hcs _ _ =>
  have ea : as' = #[] := by simpa using ha
  have ec : cs = #[] := by simpa using hcs
  subst ea; subst ec
  generalize hll : l.length = n at r0 hl
  cases r0 with
  | sl0 =>
    have : l = [] := List.length_eq_zero_iff.1 hll
    subst this
    have e : sortBy cf ([] : List β) = [] := List.length_eq_zero_iff.1 hs2
    rw [e]
    refine (AnyF.slices_SortFunc_none L none 0 (.func (.func g) #[] #[]) C.w0).mono fun e w' ⟨he, hw⟩ => ?_
    subst hw
    exact ⟨_, _, _, he, hm, tupR _ _ _⟩
  | sl _ _ _ _ b cap h hroom hcap hmx =>
    rcases ho with ⟨h2, _⟩ | ⟨b', c, e, h2, h3, h4⟩
    · rw [h] at h2; cases h2
    · rw [h] at h2; cases h2
      obtain ⟨hsz, hcells⟩ := cells_of_rows hk0 hlen h4
      obtain ⟨hb1, hb2, hb3⟩ := hm.blk 0 _ b rfl h
      have hH : HoldsK ev k C.w0 b (0 * k) l.toArray := by
        intro j hj
        simp at hj
        refine ⟨?_, ?_⟩
        · simp only [World.cell?, h3, Nat.zero_mul, Nat.zero_add]
          simpa using hcells j hj
        · simp [World.frozen?, h3]
      have hcall := AnyQ.slices_SortFunc_eq L k aE zE ev hlen h1 cf hO g #[] b (0 * k) cap l.toArray C.w0 hg (cmp_lays h1 hc b (0 * k) l.toArray.size C.w0) hH hb2 (by simpa [hll] using hl)
      rw [show l.toArray.size = n by simpa using hll] at hcall
      refine hcall.mono fun ex w' ⟨he, q, os, hw⟩ => ?_
      subst hw
      have hls : l.toArray.size = n := by simpa using hll
      have hd : pdq (ltOf cf) l.toArray 0 n (Lib.bitLen n) true true = (sortBy cf l).toArray := by rw [← hll]; simp [sortBy]
      rw [hd]
      have hset : sortWorldK ev k C.w0 b (0 * k) q (sortBy cf l).toArray os = grown (C.w0.setRow b (putCells id 0 (flatK ev k (sortBy cf l).toArray) c)) os q := by
        unfold sortWorldK putRowK putRow
        rw [mapBlock_setRow (w := Go.Sort.ahead C.w0 q) (b := b) (c := c) (e := e) (fr := (0, 0)) _ h3, Nat.zero_mul]
        rfl
      rw [hset]
      have hps : (putCells id 0 (flatK ev k (sortBy cf l).toArray) c).size = c.size := by simp [putCells]
      have hrr : ∀ w' : World, RowsRep (FRep w' C.S0) (putCells id 0 (flatK ev k (sortBy cf l).toArray) c) k ((sortBy cf l).map fun x => (ev x).map FV.lit) := fun w' => by
        refine ⟨by rw [hps]; simpa [hs2] using hsz, fun r hr => ?_, fun i j r p hi hj => ?_⟩
        · obtain ⟨x, _, rfl⟩ := List.mem_map.1 hr
          simp [hlen]
        · rw [List.getElem?_map] at hi
          obtain ⟨x, hx, rfl⟩ := Option.map_eq_some_iff.1 hi
          rw [List.getElem?_map] at hj
          obtain ⟨v, hv, rfl⟩ := Option.map_eq_some_iff.1 hj
          have hjk : j < k := by rw [← hlen x]; exact (List.getElem?_eq_some_iff.1 hv).1
          have hin : i < (sortBy cf l).length := (List.getElem?_eq_some_iff.1 hx).1
          have hlt : i * k + j < (sortBy cf l).length * k := by
            calc i * k + j < i * k + k := by omega
              _ = (i + 1) * k := by rw [Nat.add_mul, Nat.one_mul]
              _ ≤ _ := Nat.mul_le_mul_right _ hin
          have hlt2 : i * k + j < c.size := by rw [hs2] at hlt; omega
          refine ⟨v, ?_, h1 x v (List.mem_of_getElem? hv), .lit v⟩
          have e1 : (i * k + j) / k = i := by rw [Nat.mul_comm, Nat.mul_add_div hk0, Nat.div_eq_of_lt hjk, Nat.add_zero]
          have e2 : (i * k + j) % k = j := by rw [Nat.mul_comm, Nat.mul_add_mod, Nat.mod_eq_of_lt hjk]
          have e3 : (flatK ev k (sortBy cf l).toArray)[i * k + j]! = v := by
            rw [get_flatK _ _ _ _ (by simpa using hlt), e1, e2]
            rw [List.getElem?_eq_getElem hin] at hx
            cases hx
            rw [getElem!_pos _ i (by simpa using hin)]
            have hjl : j < (ev (sortBy cf l)[i]).length := by rw [hlen]; exact hjk
            rw [List.getElem?_eq_getElem hjl] at hv
            cases hv
            simp [hjl]
          unfold putCells
          rw [Array.getElem?_mapIdx, Array.getElem?_eq_getElem hlt2]
          simp only [Option.map_some, Nat.zero_le, true_and, Nat.zero_add, size_flatK, List.size_toArray, Nat.sub_zero, id]
          rw [if_pos hlt, e3]
      obtain ⟨m1, hle1⟩ := hm.write (id := 0) (o' := .flat k ((sortBy cf l).map fun x => (ev x).map .lit)) rfl h h3 hps (plain_hown (by exact trivial)) (fun w' hle hb => .inr ⟨b, _, e, h, hb, hrr w'⟩)
      refine ⟨_, _, _, he, ((m1.reheap (H' := [(0, some (.flat k ((sortBy cf l).map fun x => (ev x).map .lit)))]) (fun id => ?_)).grow os q).1, tupR _ _ _⟩
      simp only [hlook]
      cases Nat.beq 0 id <;> rfl
end Go.RT
/- The kit's contract of slices.Sort at []int, turned into one of the engine's. -/
namespace Go.RT
open Go Go.Proofs Go.Sort Go.Shelf
set_option linter.all false
variable {P : Program} {ρ : Ren}
def srtI (l : List Int) : List Int := l.mergeSort fun x y => decide (x ≤ y)
theorem srtI_len (l : List Int) : (srtI l).length = l.length := List.length_mergeSort l
theorem srtI_perm (l : List Int) : (srtI l).Perm l := List.mergeSort_perm l _
theorem srtI_sorted (l : List Int) : (srtI l).Pairwise (fun x y => x ≤ y) := by
  have := List.pairwise_mergeSort (le := fun x y : Int => decide (x ≤ y)) (fun a b c h1 h2 => by simp at h1 h2 ⊢; omega) (fun a b => by simp; omega) l
  exact this.imp (fun h => by simpa using h)
theorem sortI_meets (L : Lays.n189 P ρ) {l : List Int} (hl : l.length < 4611686018427387904) :
    Meets P (ρ.f 189) [.sl 0 1 0 l.length] 1 [(0, some (.flat 1 (l.map fun x => [If .i64 x])))] (.fz (.tup [])) [(0, some (.flat 1 ((srtI l).map fun x => [If .i64 x])))] 1 := by
  refine ⟨fun C vs hn hm hlv hr => ?_⟩
  have tupR : ∀ w' S' m', Rep w' S' m' (.tuple #[]) (.fz (.tup [])) := fun w' S' m' => .fz _ _ (.tup #[] [] rfl (fun i c f hc => by simp at hc))
  match vs, hlv, hr with
  | [v0], _, hr =>
  have r0 := hr 0 v0 _ rfl rfl
  have ho := hm.objs 0 _ rfl
  have hs2 := srtI_len l
  generalize hll : l.length = n at r0 hl
  cases r0 with
  | sl0 =>
    have : l = [] := List.length_eq_zero_iff.1 hll
    subst this
    have e : srtI ([] : List Int) = [] := List.length_eq_zero_iff.1 hs2
    rw [e]
    refine (Any.slices_Sort_int_none L none 0 C.w0).mono fun e w' ⟨he, hw⟩ => ?_
    subst hw
    exact ⟨_, _, _, he, hm, tupR _ _ _⟩
  | sl _ _ _ _ b cap h hroom hcap hmx =>
    rcases ho with ⟨h2, _⟩ | ⟨b', c, e, h2, h3, h4⟩
    · rw [h] at h2; cases h2
    · rw [h] at h2; cases h2
      obtain ⟨hsz, _, hR⟩ := h4
      obtain ⟨hb1, hb2, hb3⟩ := hm.blk 0 _ b rfl h
      have hcl : ∀ j (hj : j < l.length), c[j]? = some (.int .i64 l[j]) := fun j hj => by
        obtain ⟨u, hu, _, hf⟩ := hR j 0 [If .i64 l[j]] (If .i64 l[j]) (by simp [hj]) rfl
        cases hf
        simpa using hu
      have hH : Holds (Value.int .i64) C.w0 b (0 * 1) l.toArray := by
        intro j hj
        simp at hj
        refine ⟨?_, ?_⟩
        · simp only [World.cell?, h3, Nat.zero_mul, Nat.zero_add]
          rw [getElem!_pos _ j (by simpa using hj)]
          simpa using hcl j hj
        · simp [World.frozen?, h3]
      have hcall := Any.slices_Sort_int L b (0 * 1) cap l C.w0 hH hb2 (by rw [hll]; exact hl)
      rw [hll] at hcall
      refine hcall.mono fun ex w' ⟨he, q, os, hw⟩ => ?_
      subst hw
      have hset : grow (putRow (Value.int .i64) (Go.Sort.ahead C.w0 q) b (0 * 1) (srtI l).toArray) os = grown (C.w0.setRow b (putCells (Value.int .i64) 0 (srtI l).toArray c)) os q := by
        unfold putRow
        rw [mapBlock_setRow (w := Go.Sort.ahead C.w0 q) (b := b) (c := c) (e := e) (fr := (0, 0)) _ h3, Nat.zero_mul]
        rfl
      have hset2 : grow (putRow (Value.int .i64) (Go.Sort.ahead C.w0 q) b (0 * 1) (l.mergeSort fun x y => decide (x ≤ y)).toArray) os = grown (C.w0.setRow b (putCells (Value.int .i64) 0 (srtI l).toArray c)) os q := hset
      rw [hset2]
      have hps : (putCells (Value.int .i64) 0 (srtI l).toArray c).size = c.size := by simp [putCells]
      have hrr : ∀ w' : World, RowsRep (FRep w' C.S0) (putCells (Value.int .i64) 0 (srtI l).toArray c) 1 ((srtI l).map fun x => [If .i64 x]) := fun w' => by
        refine ⟨by rw [hps]; simpa [hs2] using hsz, fun r hr => ?_, fun i j r p hi hj => ?_⟩
        · obtain ⟨x, _, rfl⟩ := List.mem_map.1 hr
          rfl
        · rw [List.getElem?_map] at hi
          obtain ⟨x, hx, rfl⟩ := Option.map_eq_some_iff.1 hi
          have hin : i < (srtI l).length := (List.getElem?_eq_some_iff.1 hx).1
          match j, hj with
          | 0, hj =>
            cases hj
            have hlt2 : i < c.size := by simp at hsz; omega
            refine ⟨.int .i64 x, ?_, rfl, .lit _⟩
            unfold putCells
            rw [Nat.mul_one, Nat.add_zero, Array.getElem?_mapIdx, Array.getElem?_eq_getElem hlt2]
            simp only [Option.map_some, Nat.zero_le, true_and, Nat.zero_add, List.size_toArray, Nat.sub_zero]
            rw [if_pos hin, getElem!_pos _ i (by simpa using hin)]
            rw [List.getElem?_eq_getElem hin] at hx
            cases hx; simp
          | j + 1, hj => simp at hj
      obtain ⟨m1, hle1⟩ := hm.write (id := 0) (o' := .flat 1 ((srtI l).map fun x => [If .i64 x])) rfl h h3 hps (plain_hown (by exact trivial)) (fun w' hle hb => .inr ⟨b, _, e, h, hb, hrr w'⟩)
      refine ⟨_, _, _, he, ((m1.reheap (H' := [(0, some (.flat 1 ((srtI l).map fun x => [If .i64 x])))]) (fun id => ?_)).grow os q).1, tupR _ _ _⟩
      simp only [hlook]
      cases Nat.beq 0 id <;> rfl
end Go.RT
/- The nodes to which edges lead: sorted and cut, or put in one by one. -/
namespace Go.Pl
open Go.RT
set_option linter.all false
abbrev eqI (x y : Int) : Bool := decide (x = y)
def tosL (n : Int) (l : List Edg) : List Int := (l.filter fun e => decide (e.f = n)).map (·.t)
def Asc (l : List Int) : Prop := l.Pairwise (fun x y => x < y)
theorem Asc.ext : ∀ {a b : List Int}, Asc a → Asc b → (∀ p, p ∈ a ↔ p ∈ b) → a = b
  | [], [], _, _, _ => rfl
  | [], y :: b, _, _, h => by have := (h y).2 (List.mem_cons_self ..); cases this
  | x :: a, [], _, _, h => by have := (h x).1 (List.mem_cons_self ..); cases this
  | x :: a, y :: b, ha, hb, h => by
    obtain ⟨a1, a2⟩ := List.pairwise_cons.1 ha
    obtain ⟨b1, b2⟩ := List.pairwise_cons.1 hb
    have e : x = y := by
      rcases List.mem_cons.1 ((h x).1 (List.mem_cons_self ..)) with e | h1
      · exact e
      · rcases List.mem_cons.1 ((h y).2 (List.mem_cons_self ..)) with e | h2
        · exact e.symm
        · have := b1 x h1; have := a1 y h2; omega
    subst e
    refine congrArg _ (Asc.ext a2 b2 fun p => ?_)
    constructor
    · intro hp
      rcases List.mem_cons.1 ((h p).1 (List.mem_cons_of_mem _ hp)) with e | h1
      · subst e; have := a1 p hp; omega
      · exact h1
    · intro hp
      rcases List.mem_cons.1 ((h p).2 (List.mem_cons_of_mem _ hp)) with e | h1
      · subst e; have := b1 p hp; omega
      · exact h1
theorem ddF_asc : ∀ (l : List Int) (p : Int), (p :: l).Pairwise (fun x y => x ≤ y) → Asc (p :: ddF eqI p l) ∧ ∀ x, x ∈ p :: ddF eqI p l ↔ x ∈ p :: l
  | [], p, _ => ⟨by simp [Asc, ddF], fun x => by simp [ddF]⟩
  | y :: l, p, h => by
    obtain ⟨h1, h2⟩ := List.pairwise_cons.1 h
    obtain ⟨i1, i2⟩ := ddF_asc l y h2
    have hpy := h1 y (List.mem_cons_self ..)
    simp only [ddF]
    by_cases e : y = p
    · subst e
      simp only [eqI, decide_true, cond_true]
      refine ⟨i1, fun x => ?_⟩
      rw [i2]; simp
    · have : eqI y p = false := by simp [eqI, e]
      rw [this, cond_false]
      refine ⟨List.pairwise_cons.2 ⟨fun z hz => ?_, i1⟩, fun x => ?_⟩
      · have := (i2 z).1 hz
        rcases List.mem_cons.1 this with rfl | hz
        · omega
        · have := (List.pairwise_cons.1 h2).1 z hz; omega
      · rw [List.mem_cons, i2, List.mem_cons]; simp
theorem comp_asc {l : List Int} (h : l.Pairwise (fun x y => x ≤ y)) : Asc (compL eqI l) ∧ ∀ x, x ∈ compL eqI l ↔ x ∈ l := by
  cases l with
  | nil => exact ⟨by simp [Asc, compL], fun x => by simp [compL]⟩
  | cons p l => exact ddF_asc l p h
def nextI (n : Int) (l : List Edg) : List Int := compL eqI (srtI (tosL n l))
theorem nextI_spec (n : Int) (l : List Edg) : Asc (nextI n l) ∧ ∀ x, x ∈ nextI n l ↔ ∃ e ∈ l, e.f = n ∧ e.t = x := by
  obtain ⟨h1, h2⟩ := comp_asc (srtI_sorted (tosL n l))
  refine ⟨h1, fun x => ?_⟩
  show x ∈ compL eqI _ ↔ _
  rw [h2, (srtI_perm _).mem_iff]
  simp [tosL, and_assoc]
theorem insR_mem (n : Int) : ∀ (l : List Int) (d : Bool) (x : Int), x ∈ insR n d l ↔ (x = n ∧ (d = false ∨ False)) ∨ (x ∈ l ∧ x ≠ n) := by
  intro l
  induction l with
  | nil => intro d x; cases d <;> simp [insR]
  | cons y l ih =>
    intro d x
    simp only [insR, List.mem_append, ih]
    by_cases hd : (!d && decide (n ≤ y)) = true
    · have : d = false ∧ n ≤ y := by simpa using hd
      rw [hd]
      obtain ⟨rfl, hy⟩ := this
      by_cases hyn : y = n
      · subst hyn; simp; grind
      · simp [hyn]; grind
    · have hd2 : (!d && decide (n ≤ y)) = false := by simpa using hd
      rw [hd2]
      by_cases hyn : y = n
      · subst hyn; simp; grind
      · simp [hyn]; grind
theorem insR_asc (n : Int) : ∀ (l : List Int) (d : Bool), Asc l → (d = true → ∀ x ∈ l, n ≤ x) → Asc (insR n d l) ∧ ∀ x ∈ insR n d l, x ∈ l ∨ x = n
  | [], d, _, _ => by cases d <;> simp [insR, Asc]
  | y :: l, d, h, hd => by
    obtain ⟨h1, h2⟩ := List.pairwise_cons.1 h
    have hrest : ∀ x ∈ insR n (d || (!d && decide (n ≤ y))) l, (x ∈ l ∧ x ≠ n) ∨ (x = n ∧ (d || (!d && decide (n ≤ y))) = false) := fun x hx => by
      have := (insR_mem n l _ x).1 hx
      rcases this with ⟨a, b⟩ | b
      · exact .inr ⟨a, by simpa using b⟩
      · exact .inl b
    obtain ⟨i1, i2⟩ := insR_asc n l (d || (!d && decide (n ≤ y))) h2 (fun hd2 x hx => by
      have := h1 x hx
      cases d with
      | true => exact hd rfl x (List.mem_cons_of_mem _ hx)
      | false => simp at hd2; omega)
    refine ⟨?_, fun x hx => ?_⟩
    · simp only [insR]
      have tail : Asc ((if y ≠ n then [y] else []) ++ insR n (d || (!d && decide (n ≤ y))) l) := by
        split
        · refine List.pairwise_cons.2 ⟨fun x hx => ?_, i1⟩
          rcases hrest x hx with ⟨hxl, _⟩ | ⟨rfl, hf⟩
          · exact h1 x hxl
          · cases d with
            | true => simp at hf
            | false => simp at hf; omega
        · simpa using i1
      by_cases hdn : (!d && decide (n ≤ y)) = true
      · rw [if_pos hdn]
        have hd2 : d = false ∧ n ≤ y := by simpa using hdn
        show Asc (n :: ((if y ≠ n then [y] else []) ++ insR n (d || (!d && decide (n ≤ y))) l))
        refine List.pairwise_cons.2 ⟨fun x hx => ?_, tail⟩
        rcases List.mem_append.1 hx with hx | hx
        · split at hx
          · rename_i hyn
            have : x = y := by simpa using hx
            omega
          · simp at hx
        · rcases hrest x hx with ⟨hxl, _⟩ | ⟨_, hf⟩
          · have := h1 x hxl; omega
          · rw [hdn] at hf; simp at hf
      · rw [if_neg hdn]; exact tail
    · have := (insR_mem n (y :: l) d x).1 hx
      rcases this with ⟨h, _⟩ | h
      · exact .inr h
      · exact .inl h.1
theorem nextR_spec (n : Int) : ∀ (l : List Edg) (out : List Int), Asc out → Asc (nextR n out l) ∧ ∀ x, x ∈ nextR n out l ↔ x ∈ out ∨ ∃ e ∈ l, e.f = n ∧ e.t = x
  | [], out, h => ⟨h, fun x => by simp [nextR]⟩
  | e :: l, out, h => by
    simp only [nextR]
    split
    · rename_i he
      obtain ⟨i1, i2⟩ := nextR_spec n l _ (insR_asc e.t out false h (by simp)).1
      refine ⟨i1, fun x => ?_⟩
      rw [i2, insR_mem]
      grind
    · rename_i he
      obtain ⟨i1, i2⟩ := nextR_spec n l _ h
      refine ⟨i1, fun x => ?_⟩
      rw [i2]
      grind
theorem next_eq (n : Int) (l : List Edg) : nextR n [] l = nextI n l := by
  obtain ⟨a1, a2⟩ := nextR_spec n l [] List.Pairwise.nil
  obtain ⟨b1, b2⟩ := nextI_spec n l
  exact Asc.ext a1 b1 fun p => by rw [a2, b2]; simp
theorem nextI_len (n : Int) (l : List Edg) : (nextI n l).length ≤ l.length := by
  have h1 := compL_len eqI (srtI (tosL n l))
  have h2 := srtI_len (tosL n l)
  have h3 : (tosL n l).length ≤ l.length := by simp [tosL]; exact List.length_filter_le _ _
  unfold nextI; omega
end Go.Pl
