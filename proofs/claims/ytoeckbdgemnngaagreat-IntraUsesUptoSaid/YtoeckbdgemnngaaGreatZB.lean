/- A part of the proof: RT11, RT12, RT13, RT14, RT15, RT16, RT17, RT18, RT19, RT20, RT21, RT22, RT23, RT24, RT25, RT26, RT27. -/
import Derived.Test.YtoeckbdgemnngaaGreatZA
import Derived.Laws.StructEq
import Derived.ProofKit
import Derived.OpenShut
import Derived.WideKeyArgs
import Derived.ChangeSame
import Derived.ReadAgain
import Derived.Carry
import Derived.Laws.Cover3
import Derived.Laws.CopyRow
import Derived.Lib.Overlaps
set_option linter.all false
/- The engine, part 11: make, append, reslicing. -/
namespace Go.RT
set_option linter.all false

theorem RowsRep.append {α : Type} {R : Value → α → Prop} {A : Array Value} {sz : Nat} {rows rs : List (List α)} (h1 : ∀ r ∈ rows, r.length = sz) (h2 : ∀ r ∈ rs, r.length = sz) (hs : (rows.length + rs.length) * sz ≤ A.size)
    (k1 : ∀ (i j : Nat) (r : List α) (p : α), rows[i]? = some r → r[j]? = some p → ∃ u, A[i * sz + j]? = some u ∧ u.oneCell' = true ∧ R u p)
    (k2 : ∀ (i j : Nat) (r : List α) (p : α), rs[i]? = some r → r[j]? = some p → ∃ u, A[rows.length * sz + (i * sz + j)]? = some u ∧ u.oneCell' = true ∧ R u p) : RowsRep R A sz (rows ++ rs) := by
  refine ⟨by simpa using hs, fun r hr => ?_, fun i j r p hi hj => ?_⟩
  · rcases List.mem_append.1 hr with h | h
    · exact h1 r h
    · exact h2 r h
  · rw [List.getElem?_append] at hi
    split at hi
    · exact k1 i j r p hi hj
    · rename_i hlt
      obtain ⟨u, hu⟩ := k2 (i - rows.length) j r p hi hj
      refine ⟨u, ?_⟩
      have : i * sz = rows.length * sz + (i - rows.length) * sz := by rw [← Nat.add_mul]; congr 1; omega
      rw [this, Nat.add_assoc]; exact hu

/-- an object known as0 an owned one may be called by a new number -/
theorem Mem.retag {C : Cx} {H : Hp} {nx : Nat} {S : Nat → Prop} {m : Ids} {w : World} (hm : Mem C H nx S m w) {id : Nat} {o : Ob} {x : Option Nat} (hid : hlook H id = some o) (hx : m id = some x) (hpl : o.plain := by exact trivial) :
    Mem C ((nx, some o) :: (id, none) :: H) (nx + 1) S (setM m nx x) w ∧ Le S m w S (setM m nx x) w := by
  have hne : id ≠ nx := by have := hm.lt hx; omega
  have hids : ∀ i y, m i = some y → i ≠ nx := fun i y hi => by have := hm.lt hi; omega
  have hle : Le S m w S (setM m nx x) w := ⟨fun _ h => h, fun _ _ => rfl, fun i y hi => by rw [setM_other (hids i y hi)]; exact hi, fun _ _ h => h⟩
  have ex : ∀ id' o', hlook ((nx, some o) :: (id, none) :: H) id' = some o' → (id' = nx ∧ o' = o) ∨ (id' ≠ nx ∧ id' ≠ id ∧ hlook H id' = some o') := fun id' o' h => by
    rw [hlook_cons] at h
    by_cases h1 : nx = id'
    · rw [if_pos h1] at h; cases h; exact .inl ⟨h1.symm, rfl⟩
    · rw [if_neg h1, hlook_cons] at h
      by_cases h2 : id = id'
      · rw [if_pos h2] at h; cases h
      · rw [if_neg h2] at h; exact .inr ⟨fun e => h1 e.symm, fun e => h2 e.symm, h⟩
  refine ⟨hm.step hle ⟨rfl, Nat.le_refl _⟩ rfl rfl (fun _ _ => rfl) (Nat.le_refl _) (fun _ _ _ => rfl) (fun _ h => .inl h) (fun id' o' h => ?_) (fun id' o' b h hb => ?_) (fun i1 i2 o1 o2 b h1 h2 h3 h4 => ?_) hm.stab (fun i hi => ?_) ?_, hle⟩
  · rcases ex id' o' h with ⟨rfl, rfl⟩ | ⟨h1, _, h2⟩
    · have := (hm.objs id _ hid).mono hle (fun _ _ => rfl)
      cases o' with
      | flat sz rows =>
        rcases this with ⟨k1, k2⟩ | ⟨b, c, e, k1, k2⟩
        · rw [setM_other hne, hx] at k1; cases k1; exact .inl ⟨setM_self _ _ _, k2⟩
        · rw [setM_other hne, hx] at k1; cases k1; exact .inr ⟨b, c, e, setM_self _ _ _, k2⟩
      | refs sz rows =>
        rcases this with ⟨k1, k2⟩ | ⟨b, c, e, k1, k2⟩
        · rw [setM_other hne, hx] at k1; cases k1; exact .inl ⟨setM_self _ _ _, k2⟩
        · rw [setM_other hne, hx] at k1; cases k1; exact .inr ⟨b, c, e, setM_self _ _ _, k2⟩
      | map ks vs =>
        obtain ⟨b, arr, clock, k1, k2⟩ := this
        rw [setM_other hne, hx] at k1; cases k1; exact ⟨b, arr, clock, setM_self _ _ _, k2⟩
      | raw x =>
        obtain ⟨b, k1, k2⟩ := this
        rw [setM_other hne, hx] at k1; cases k1; exact ⟨b, setM_self _ _ _, k2⟩
      | mapc ks vs arr cl b =>
        obtain ⟨k1, k2⟩ := this
        rw [setM_other hne, hx] at k1; cases k1; exact ⟨setM_self _ _ _, k2⟩
    · exact (hm.objs id' o' h2).mono hle (fun _ _ => rfl)
  · rcases ex id' o' h with ⟨rfl, rfl⟩ | ⟨h1, _, h2⟩
    · rw [setM_self] at hb; cases hb; exact hm.blk id _ b hid hx
    · rw [setM_other h1] at hb; exact hm.blk id' o' b h2 hb
  · rcases ex i1 o1 h1 with ⟨rfl, rfl⟩ | ⟨a1, a2, a3⟩ <;> rcases ex i2 o2 h2 with ⟨rfl, rfl⟩ | ⟨b1, b2, b3⟩
    · rfl
    · rw [setM_self] at h3; cases h3
      rw [setM_other b1] at h4
      exact absurd (hm.inj id i2 _ _ b hid b3 hx h4).symm b2
    · rw [setM_self] at h4; cases h4
      rw [setM_other a1] at h3
      exact absurd (hm.inj id i1 _ _ b hid a3 hx h3).symm a2
    · rw [setM_other a1] at h3; rw [setM_other b1] at h4
      exact hm.inj i1 i2 _ _ b a3 b3 h3 h4
  · rw [setM_other (by omega)]; exact hm.fresh i (by omega)
  · refine hm.nkeep hle (Nat.le_refl _) (fun id' sz i j isz irows hO => ?_) (fun _ _ _ _ _ _ _ c e _ _ _ k2 k3 => ⟨c, e, k2, k3⟩) (fun b' _ h2 h3 => ⟨rfl, h2, fun id2 o2 ho2 hc => ?_⟩)
    · by_cases h1 : nx = id'
      · exact (hO.notPlain (o := o) (by rw [hlook_cons, if_pos h1]) hpl).elim
      · exact hO.of fun o2 h => by
          rcases ex id' o2 h with ⟨rfl, _⟩ | ⟨_, _, h2⟩
          · exact absurd rfl h1
          · exact h2
    · rcases ex id2 o2 ho2 with ⟨rfl, rfl⟩ | ⟨q1, _, q2⟩
      · rw [setM_self] at hc; cases hc; exact h3 _ _ hid hx
      · rw [setM_other q1] at hc; exact h3 _ _ q2 hc

section
variable {P : Program} {o : Oper} {g : Bool} {G : Env} {x y : Operand} {t : TypeId} {H : Hp} {nx : Nat}

/-! make -/
theorem op_make {e : TypeId} {sz by_ l c : Nat} {z : Value} {zs : List FV} {k1 k2 : IntKind} {a1 a2 : Int} [hd : TyD P t (.slice e)] [hn : TyN P e sz by_ z] (ho : o.op = .makeSlice t x y) (hx : Opd G g x (IV k1 a1)) (hy : Opd G g y (IV k2 a2))
    (hz : zeroFs z = zs) (hl : Nat.beq zs.length sz = true) (h1 : z.cells.toList.all (·.oneCell') = true) (h0 : Nat.blt 0 sz = true) (hb : g = true → a1 = l ∧ a2 = c ∧ l ≤ c ∧ by_ * c ≤ 281474976710656 ∧ c ≤ 4611686018427387904) :
    OpS P o g G H nx (.sl nx sz 0 l) ((nx, some (.flat sz (List.replicate l zs))) :: H) (nx + 1) :=
  ⟨fun C S m a w hm hg ha K Q hK => by
    have e1 := (hx.rep hg (by simp [ho, Op.operands]) ha).lit
    have e2 := (hy.rep hg (by simp [ho, Op.operands]) ha).lit
    obtain ⟨rfl, rfl, hlc, hby, hmx⟩ := hb hg
    have hcl := Nat.eq_of_beq_eq_true hl
    have h0 := blt_of h0
    subst hz
    have hzs : z.cells.size = sz := by rw [← hcl]; simp [zeroFs]
    have hrun : ∃ A : Array Value, (execOp a.eval o).run P w = .ok (.value (.slice (some ⟨w.heap.size, 0, none⟩) l c)) (w.alloc (.cells A e)) ∧ A.size = c * sz ∧ ∀ i j : Nat, i < c → j < sz → A[i * sz + j]? = z.cells[j]? := by
      have hw1 : IntKind.i64.wrap (l : Int) = l := wrap_of (k := .i64) (by simp only [inr]; omega)
      have hw2 : IntKind.i64.wrap (c : Int) = c := wrap_of (k := .i64) (by simp only [inr]; omega)
      obtain ⟨i, hi, i1, i2, i3⟩ := hn.h
      have q1 : ¬ ((c : Int) < 0) := by omega
      have q2 : ¬ ((l : Int) < 0) := by omega
      have q3 : ¬ ((281474976710656 : Int) < (by_ : Int) * (c : Int)) := by
        rw [← Int.natCast_mul]
        generalize by_ * c = q at hby
        omega
      have q4 : ¬ ((c : Int) < (l : Int)) := by omega
      by_cases hc0 : c * sz = 0
      · refine ⟨#[], ?_, by simp [hc0], fun i j hi hj => ?_⟩
        · have hr0 : Array.range 0 = #[] := rfl
          simp [execOp, ho, e1, e2, Instr.makeSlice, run_underlying hd.h, asInt, asIntOf, run_typeInfo w hi, i2, hw1, hw2, q1, q2, q3, q4, run_size hn, hc0, hr0, newRow]
        · have : c = 0 := by
            rcases Nat.mul_eq_zero.1 hc0 with h | h
            · exact h
            · omega
          omega
      · refine ⟨(Array.range (c * sz)).map (fun k => z.cells[k % z.cells.size]!), ?_, by simp, fun i j hi hj => ?_⟩
        · simp [execOp, ho, e1, e2, Instr.makeSlice, run_underlying hd.h, asInt, asIntOf, run_typeInfo w hi, i2, hw1, hw2, q1, q2, q3, q4, run_size hn, hc0, run_zero hn, newRow]
        · have hlt : i * sz + j < c * sz := by
            have : (i + 1) * sz ≤ c * sz := Nat.mul_le_mul_right _ hi
            rw [Nat.add_mul, Nat.one_mul] at this; omega
          have hmod : (i * sz + j) % z.cells.size = j := by rw [hzs, Nat.mul_comm, Nat.mul_add_mod, Nat.mod_eq_of_lt hj]
          have hj2 : j < z.cells.size := by rw [hzs]; exact hj
          simp [hlt, hmod, hj2]
    obtain ⟨A, r1, r2, r3⟩ := hrun
    obtain ⟨k1, k2, k3⟩ := hm.new A e (.flat sz (List.replicate l (zeroFs z))) trivial (fun w' m' hle hnew hid => .inr ⟨_, _, _, hid, hnew, by
      refine ⟨by rw [List.length_replicate, r2]; exact Nat.mul_le_mul_right _ hlc, fun r hr => by rw [List.eq_of_mem_replicate hr, hcl], fun i j r p hi hj => ?_⟩
      rw [List.getElem?_replicate] at hi
      split at hi
      · cases hi
        have hj2 : j < sz := by rw [← hcl]; exact (List.getElem?_eq_some_iff.1 hj).1
        obtain ⟨u, hu, hone, hr⟩ := (zeroFs_rep h1 w' S).2 j p hj
        exact ⟨u, by rw [r3 i j (by omega) hj2]; exact hu, hone, hr⟩
      · cases hi⟩)
    refine wp_value r1 (hK _ _ S _ k1 k2 ?_)
    have := Rep.sl (w := w.alloc (.cells A e)) (S := S) (m := setM m nx (some w.heap.size)) nx sz 0 l w.heap.size c (setM_self _ _ _) ⟨A, e, _, k3, by rw [r2]; simp⟩ hlc (by unfold maxLen; omega)
    simpa using this⟩

/-! append: what is appended -/
/-- the cells of a slice value, as0 a list -/
def Src (w : World) (R : Value → FV → Prop) (sz : Nat) (v : Value) (rs : List (List FV)) : Prop :=
  (rs = [] ∧ ∃ ax c, v = .slice ax 0 c) ∨ ∃ b off c news, v = .slice (some ⟨b, off, none⟩) rs.length c ∧ (∀ r ∈ rs, r.length = sz) ∧ List.length news = rs.length * sz ∧ (∀ (j : Nat) (u : Value), news[j]? = some u → w.cell? ((⟨b, off, none⟩ : Addr).add j) = some u ∧ u.oneCell' = true) ∧
    ∀ (i j : Nat) (r : List FV) (f : FV), rs[i]? = some r → r[j]? = some f → ∃ u, news[i * sz + j]? = some u ∧ R u f

theorem src_of {w : World} {R : Value → FV → Prop} {sz b off c : Nat} {rs : List (List FV)} (hsz : ∀ r ∈ rs, r.length = sz)
    (h : ∀ (i j : Nat) (r : List FV) (f : FV), rs[i]? = some r → r[j]? = some f → ∃ u, w.cell? ⟨b, off + (i * sz + j), none⟩ = some u ∧ u.oneCell' = true ∧ R u f) : Src w R sz (.slice (some ⟨b, off, none⟩) rs.length c) rs := by
  have hq : ∀ (q : Nat) (f : Unit), (List.replicate (rs.length * sz) ())[q]? = some f → ∃ u, w.cell? ⟨b, off + q, none⟩ = some u ∧ u.oneCell' = true ∧ True := fun q f hq => by
    rw [List.getElem?_replicate] at hq
    split at hq
    · rename_i hlt
      have hsz0 : 0 < sz := by
        rcases Nat.eq_zero_or_pos sz with h | h
        · subst h; simp at hlt
        · exact h
      have hi : q / sz < rs.length := (Nat.div_lt_iff_lt_mul hsz0).2 hlt
      have hr : (rs[q / sz]).length = sz := hsz _ (List.getElem_mem hi)
      have hj : q % sz < (rs[q / sz]).length := by rw [hr]; exact Nat.mod_lt _ hsz0
      obtain ⟨u, hu, ho1, _⟩ := h (q / sz) (q % sz) (rs[q / sz]) ((rs[q / sz])[q % sz]) (List.getElem?_eq_getElem hi) (List.getElem?_eq_getElem hj)
      refine ⟨u, ?_, ho1, trivial⟩
      have : q / sz * sz + q % sz = q := by rw [Nat.mul_comm]; exact Nat.div_add_mod q sz
      rw [this] at hu; exact hu
    · cases hq
  obtain ⟨news, n1, n2, _⟩ := cells_list (R := fun _ _ => True) hq
  refine .inr ⟨b, off, c, news, rfl, hsz, by simpa using n1, n2, fun i j r f hi hj => ?_⟩
  obtain ⟨u, hu, _, hR⟩ := h i j r f hi hj
  have hlt : i * sz + j < news.length := by
    have h1 : i < rs.length := (List.getElem?_eq_some_iff.1 hi).1
    have h2 : j < sz := by rw [← hsz r (List.mem_of_getElem? hi)]; exact (List.getElem?_eq_some_iff.1 hj).1
    have : (i + 1) * sz ≤ rs.length * sz := Nat.mul_le_mul_right _ h1
    rw [Nat.add_mul, Nat.one_mul] at this
    rw [n1, List.length_replicate]; omega
  have hn := (n2 (i * sz + j) news[i * sz + j] (by simp [hlt])).1
  rw [add_none, hu] at hn
  cases hn
  exact ⟨_, by simp [hlt], hR⟩

theorem src_fz {w : World} {S : Nat → Prop} {sz : Nat} {v : Value} {rs : List (List FV)} (h : FRep w S v (.vals sz rs)) : Src w (FRep w S) sz v rs := by
  cases h with
  | nil => exact .inl ⟨rfl, _, _, rfl⟩
  | vals b off cap _ _ U hS hcap hsz hU hR => exact src_of hsz fun i j r f hi hj => ⟨U i j, (hU i j r f hi hj).1, (hU i j r f hi hj).2, hR i j r f hi hj⟩

theorem src_own {C : Cx} {H : Hp} {nx : Nat} {S : Nat → Prop} {m : Ids} {w : World} (hm : Mem C H nx S m w) {id sz lo len : Nat} {rows rs : List (List FV)} {v : Value} (h : Rep w S m v (.sl id sz lo len)) (hl : hlook H id = some (.flat sz rows)) (hrs : (rows.drop lo).take len = rs) (hlen : rs.length = len) : Src w (FRep w S) sz v rs := by
  have ho := hm.objs id _ hl
  cases h with
  | sl0 => exact .inl ⟨List.eq_nil_of_length_eq_zero hlen, none, 0, rfl⟩
  | sl _ _ _ _ b cap hb hr hc hmx =>
    rcases ho with ⟨h1, _⟩ | ⟨b', c, e, h1, h2, h3, h4, h5⟩
    · rw [hb] at h1; cases h1
    · rw [hb] at h1; cases h1
      subst hlen
      have hrow : ∀ i r, rs[i]? = some r → rows[lo + i]? = some r := fun i r hi => by
        rw [← hrs, List.getElem?_take] at hi
        split at hi
        · rw [List.getElem?_drop] at hi; exact hi
        · cases hi
      refine src_of (fun r hr => ?_) fun i j r f hi hj => ?_
      · obtain ⟨i, hi, he⟩ := List.getElem_of_mem hr
        exact h4 r (List.mem_of_getElem? (hrow i r (by simp [hi, he])))
      · obtain ⟨u, hu, ho1, hp⟩ := h5 (lo + i) j r f (hrow i r hi) hj
        refine ⟨u, own_cell h2 ?_, ho1, hp⟩
        rw [show lo * sz + (i * sz + j) = (lo + i) * sz + j from by rw [Nat.add_mul]; omega]; exact hu

theorem run_append_zero {e : TypeId} {sz by_ : Nat} {z : Value} [hd : TyD P t (.slice e)] [hn : TyN P e sz by_ z] {w : World} {ty : TypeId} {base ax : Option Addr} {n cap cx : Nat} (hnc : n ≤ cap) :
    (Builtin.append_ #[t, t] ty #[.slice base n cap, .slice ax 0 cx]).run P w = .ok (.slice base n cap) w := by
  cases base <;> cases ax <;> simp [Builtin.append_, run_underlying hd.h, run_size hn, Builtin.lenOf, Builtin.firstCells, hnc, loadCells, loadCellsFrom, storeCells]

theorem run_append_roomA {e e' : TypeId} {sz by_ : Nat} {z : Value} [hd : TyD P t (.slice e)] [hn : TyN P e sz by_ z] {w : World} {ty : TypeId} {g sLen sCap : Nat} {cur : Array Value} (hg : w.heap[g]? = some (.cells cur e' (0, 0)))
    {a : Addr} {m c : Nat} {news : List Value} (hl : news.length = m * sz) (hnews : ∀ j u, news[j]? = some u → w.cell? (a.add j) = some u) (h1 : ∀ u ∈ news, u.oneCell' = true) (hroom : sLen + m ≤ sCap) (hfit : sLen * sz + news.length ≤ cur.size) :
    (Builtin.append_ #[t, t] ty #[.slice (some ⟨g, 0, none⟩) sLen sCap, .slice (some a) m c]).run P w =
      .ok (.slice (some ⟨g, 0, none⟩) (sLen + m) sCap) (w.setRow g (cur.toList.take (sLen * sz) ++ news ++ cur.toList.drop (sLen * sz + news.length)).toArray) := by
  have hf := run_firstCells_some (P := P) w sz m a m c news hl hnews
  have hst := run_storeCells_at P g (sLen * sz) e' news 0 cur w hg (by simpa using hfit) h1
  simp only [Nat.add_zero] at hst
  simp [Builtin.append_, run_underlying hd.h, run_size hn, Builtin.lenOf, hroom, hf, Addr.add_lit, hst]

theorem append_core {C : Cx} {S : Nat → Prop} {m : Ids} {w : World} (hm : Mem C H nx S m w) {e : TypeId} {sz by_ : Nat} {z : Value} [hd : TyD P t (.slice e)] [hn : TyN P e sz by_ z] {ty : TypeId} {id n : Nat} {rows rs : List (List FV)} {vs vx : Value}
    (hs : Rep w S m vs (.sl id sz 0 n)) (hl : hlook H id = some (.flat sz rows)) (hrl : rows.length = n) (hx : Src w (FRep w S) sz vx rs) (h0 : 0 < sz) (hzs : z.cells.size = sz) (hbd : (n + rs.length) * by_ ≤ 140737488355328) (hmx : n + rs.length ≤ maxLen) :
    ∃ v w' m', (Builtin.append_ #[t, t] ty #[vs, vx]).run P w = .ok v w' ∧ Mem C ((nx, some (.flat sz (rows ++ rs))) :: (id, none) :: H) (nx + 1) S m' w' ∧ Le S m w S m' w' ∧ Rep w' S m' v (.sl nx sz 0 (n + rs.length)) := by
  have ho := hm.objs id _ hl
  obtain ⟨i, hi, i1, i2, i3⟩ := hn.h
  have hn' := hn
  -- the new number for an old object
  have retag : ∀ {w2 : World} {o2 : Ob} {H2 : Hp} {xx : Option Nat}, Mem C H2 nx S m w2 → hlook H2 id = some o2 → m id = some xx → (∀ k, k ≠ id → hlook H2 k = hlook H k) → (hpl : o2.plain := by exact trivial) → Mem C ((nx, some o2) :: (id, none) :: H) (nx + 1) S (setM m nx xx) w2 ∧ Le S m w2 S (setM m nx xx) w2 := fun {w2 o2 H2 xx} hm2 h1 h2 h3 hpl => by
    obtain ⟨k1, k2⟩ := hm2.retag h1 h2 hpl
    refine ⟨?_, k2⟩
    have hh : ∀ k, hlook ((nx, some o2) :: (id, none) :: H2) k = hlook ((nx, some o2) :: (id, none) :: H) k := fun k => by
      simp only [hlook_cons]
      split
      · rfl
      · split
        · rfl
        · rename_i hk; exact h3 k (fun e => hk e.symm)
    exact ⟨k1.os, k1.tape, k1.output, k1.fz, k1.size, k1.frame, k1.le, k1.sub, k1.n0, fun id o h => k1.objs id o ((hh id).trans h), fun id o b h => k1.blk id o b ((hh id).trans h), fun a b o1 o2 bb h1 h2 => k1.inj a b o1 o2 bb ((hh a).trans h1) ((hh b).trans h2), k1.stab, k1.fresh, k1.nkeep (Le.refl _ _ _) (Nat.le_refl _) (fun _ _ _ _ _ _ h => h.of fun o h => (hh _).trans h) (fun _ _ _ _ _ _ _ c e _ _ _ k2 k3 => ⟨c, e, k2, k3⟩) (fun b' _ h2 h3 => ⟨rfl, h2, fun id2 o2 h => h3 _ _ ((hh id2).trans h)⟩)⟩
  rcases hx with ⟨rfl, ax, cx, rfl⟩ | ⟨bx, ox, cx, news, rfl, hsz, hnl, hnews, hnr⟩
  · -- nothing is appended
    simp only [List.append_nil, List.length_nil, Nat.add_zero]
    cases hs with
    | sl0 _ _ h =>
      obtain ⟨k1, k2⟩ := retag hm hl h (fun _ _ => rfl)
      exact ⟨_, w, _, run_append_zero (P := P) (t := t) (Nat.le_refl _), k1, k2, .sl0 _ _ (setM_self _ _ _)⟩
    | sl _ _ _ _ b cap hb hr hc hmx2 =>
      obtain ⟨k1, k2⟩ := retag hm hl hb (fun _ _ => rfl)
      exact ⟨_, w, _, run_append_zero (P := P) (t := t) hc, k1, k2, .sl _ _ _ _ b cap (setM_self _ _ _) hr hc hmx2⟩
  · have h1c : ∀ u ∈ news, u.oneCell' = true := fun u hu => by
      obtain ⟨j, hj, he⟩ := List.getElem_of_mem hu
      exact (hnews j u (by simp [hj, he])).2
    have hnw : ∀ j u, news[j]? = some u → w.cell? ((⟨bx, ox, none⟩ : Addr).add j) = some u := fun j u h => (hnews j u h).1
    -- a new row
    have fresh : ∀ (cap' : Nat) (olds : List Value) (v : Value) (w1 : World), Le S m w S m w1 → Mem C H nx S m w1 → olds.length = n * sz → (∀ (i j : Nat) (r : List FV) (p : FV), rows[i]? = some r → r[j]? = some p → ∃ u, olds[i * sz + j]? = some u ∧ u.oneCell' = true ∧ FRep w S u p) → (∀ r ∈ rows, r.length = sz) → n + rs.length ≤ cap' → cap' ≤ maxLen →
        v = .slice (some ⟨w1.heap.size, 0, none⟩) (n + rs.length) cap' →
        ∃ m', Mem C ((nx, some (.flat sz (rows ++ rs))) :: (id, none) :: H) (nx + 1) S m' (w1.alloc (.cells (olds.toArray ++ news.toArray ++ Builtin.zeroCells z.cells (cap' - (n + rs.length))) e)) ∧ Le S m w S m' (w1.alloc (.cells (olds.toArray ++ news.toArray ++ Builtin.zeroCells z.cells (cap' - (n + rs.length))) e)) ∧
          Rep (w1.alloc (.cells (olds.toArray ++ news.toArray ++ Builtin.zeroCells z.cells (cap' - (n + rs.length))) e)) S m' v (.sl nx sz 0 (n + rs.length)) := by
      intro cap' olds v w1 hle1 hm1 hol hor hrsz hge hcm hv
      have hsize : (olds.toArray ++ news.toArray ++ Builtin.zeroCells z.cells (cap' - (n + rs.length))).size = cap' * sz := by
        simp only [Array.size_append, List.size_toArray, hol, hnl, size_zeroCells, hzs]
        rw [← Nat.add_mul, ← Nat.add_mul]; congr 1; omega
      have hm1k := hm1.kill id
      obtain ⟨k1, k2, k3⟩ := hm1k.new (olds.toArray ++ news.toArray ++ Builtin.zeroCells z.cells (cap' - (n + rs.length))) e (.flat sz (rows ++ rs)) trivial (fun w' m' hle hnew hid => .inr ⟨_, _, _, hid, hnew, by
        have hall := hle1.trans hle
        refine RowsRep.append hrsz hsz (by rw [hsize, hrl]; exact Nat.mul_le_mul_right _ hge) (fun i j r p hi hj => ?_) (fun i j r p hi hj => ?_)
        · obtain ⟨u, hu, ho1, hp⟩ := hor i j r p hi hj
          have hlt : i * sz + j < olds.length := (List.getElem?_eq_some_iff.1 hu).1
          refine ⟨u, ?_, ho1, hp.mono hall.st hall.same⟩
          rw [Array.append_assoc, Array.getElem?_append_left (by simpa using hlt)]; simpa using hu
        · obtain ⟨u, hu, hp⟩ := hnr i j r p hi hj
          have hlt : i * sz + j < news.length := (List.getElem?_eq_some_iff.1 hu).1
          refine ⟨u, ?_, h1c u (List.mem_of_getElem? hu), hp.mono hall.st hall.same⟩
          rw [Array.append_assoc, Array.getElem?_append_right (by simp [hol, hrl]), Array.getElem?_append_left (by simp [hol, hrl]; exact hlt)]
          simp [hol, hrl]; exact hu⟩)
      refine ⟨_, k1, hle1.trans k2, ?_⟩
      rw [hv]
      have := Rep.sl (w := w1.alloc (.cells (olds.toArray ++ news.toArray ++ Builtin.zeroCells z.cells (cap' - (n + rs.length))) e)) (S := S) (m := setM m nx (some w1.heap.size)) nx sz 0 (n + rs.length) w1.heap.size cap' (setM_self _ _ _) ⟨_, e, _, k3, by rw [hsize]; simp⟩ hge (by omega)
      simpa using this
    have hdrew : Le S m w S m w.drew := ⟨fun _ h => h, fun _ _ => rfl, fun _ _ h => h, fun _ _ h => h⟩
    cases hs with
    | sl0 _ _ h =>
      have hr0 : rows = [] := List.eq_nil_of_length_eq_zero hrl
      subst hr0
      by_cases hm0 : rs.length = 0
      · have : rs = [] := List.eq_nil_of_length_eq_zero hm0
        subst this
        obtain ⟨k1, k2⟩ := retag hm hl h (fun _ _ => rfl)
        exact ⟨_, w, _, run_append_zero (P := P) (t := t) (Nat.le_refl _), by simpa using k1, k2, .sl0 _ _ (setM_self _ _ _)⟩
      · have hr := run_append_nil (P := P) w t ty e i z hd.h hi i3 ⟨bx, ox, none⟩ rs.length cx news (by rw [i1]; exact hnl) hnw (by omega) (by unfold maxLen at hmx; omega) (by rw [i2]; simp only [Nat.zero_add] at hbd; omega)
        obtain ⟨m', k1, k2, k3⟩ := fresh (grownCap w rs.length 0 e) [] _ w.drew hdrew hm.drew (by simp) (fun i j r p hi => by simp at hi) (by simp) (by simp only [Nat.zero_add]; exact grownCap_ge w _ _ _) (grownCap_le_maxLen w _ _ _ (by simpa using hmx)) rfl
        simp only [Nat.zero_add, List.nil_append] at k1 k2 k3 ⊢
        refine ⟨_, _, m', hr, ?_, ?_, ?_⟩
        · simpa using k1
        · simpa using k2
        · simpa using k3
    | sl _ _ _ _ b cap hb hr hc hmx2 =>
      rcases ho with ⟨h1, _⟩ | ⟨b', c, e', h1, hcb, hRR⟩
      · rw [hb] at h1; cases h1
      · rw [hb] at h1; cases h1
        have hcs : c.size = cap * sz := by
          obtain ⟨c2, e2, fr, q1, q2⟩ := hr
          rw [hcb] at q1; cases q1; simpa using q2
        simp only [Nat.zero_mul, Nat.zero_add] at hmx2 ⊢
        by_cases hroom : n + rs.length ≤ cap
        · have hfit : n * sz + news.length ≤ c.size := by rw [hnl, hcs, ← Nat.add_mul]; exact Nat.mul_le_mul_right _ hroom
          have hrun := run_append_roomA (P := P) (t := t) (ty := ty) (c := cx) hcb hnl hnw h1c hroom hfit
          have get : ∀ k, (c.toList.take (n * sz) ++ news ++ c.toList.drop (n * sz + news.length)).toArray[k]? = if n * sz ≤ k ∧ k < n * sz + news.length then news[k - n * sz]? else c[k]? := fun k => by
            simp only [List.getElem?_toArray, List.append_assoc, List.getElem?_append, List.length_take, Array.length_toList, Nat.min_eq_left (show n * sz ≤ c.size by omega)]
            by_cases hk1 : k < n * sz
            · rw [if_pos hk1, if_neg (by omega), List.getElem?_take, if_pos hk1, Array.getElem?_toList]
            · rw [if_neg hk1]
              by_cases hk2 : k < n * sz + news.length
              · rw [if_pos (by omega), if_pos (by omega)]
              · rw [if_neg (by omega), if_neg (by omega), List.getElem?_drop, Array.getElem?_toList]; congr 1; omega
          have hs2 : (c.toList.take (n * sz) ++ news ++ c.toList.drop (n * sz + news.length)).toArray.size = c.size := by
            simp only [List.size_toArray, List.length_append, List.length_take, Array.length_toList, List.length_drop]; omega
          obtain ⟨k1, k2⟩ := hm.write hl hb hcb hs2 (o' := .flat sz (rows ++ rs)) (plain_hown (by exact trivial)) (fun w' hle hnew => .inr ⟨b, _, e', hb, hnew, by
            refine RowsRep.append hRR.2.1 hsz (by rw [hs2, hcs, hrl]; exact Nat.mul_le_mul_right _ hroom) (fun i j r p hi hj => ?_) (fun i j r p hi hj => ?_)
            · obtain ⟨u, hu, ho1, hp⟩ := hRR.2.2 i j r p hi hj
              have hii : i < rows.length := (List.getElem?_eq_some_iff.1 hi).1
              have hjj : j < sz := by rw [← hRR.2.1 r (List.mem_of_getElem? hi)]; exact (List.getElem?_eq_some_iff.1 hj).1
              have : (i + 1) * sz ≤ rows.length * sz := Nat.mul_le_mul_right _ hii
              rw [Nat.add_mul, Nat.one_mul, hrl] at this
              exact ⟨u, by rw [get, if_neg (by omega)]; exact hu, ho1, hp.mono hle.st hle.same⟩
            · obtain ⟨u, hu, hp⟩ := hnr i j r p hi hj
              have hlt : i * sz + j < news.length := (List.getElem?_eq_some_iff.1 hu).1
              exact ⟨u, by rw [hrl, get, if_pos (by omega), show n * sz + (i * sz + j) - n * sz = i * sz + j by omega]; exact hu, h1c u (List.mem_of_getElem? hu), hp.mono hle.st hle.same⟩⟩)
          obtain ⟨k3, k4⟩ := retag k1 (by rw [hlook_cons, if_pos rfl]) hb (fun k hk => by rw [hlook_cons, if_neg (fun e => hk e.symm)])
          have hroom2 : roomIs (w.setRow b (c.toList.take (n * sz) ++ news ++ c.toList.drop (n * sz + news.length)).toArray) b ((0 + cap) * sz) := k2.room _ _ hr
          have := Rep.sl (w := w.setRow b (c.toList.take (n * sz) ++ news ++ c.toList.drop (n * sz + news.length)).toArray) (S := S) (m := setM m nx (some b)) nx sz 0 (n + rs.length) b cap (setM_self _ _ _) hroom2 hroom (by omega)
          exact ⟨_, _, _, hrun, k3, k2.trans k4, by simpa using this⟩
        · have holds : ∀ (q : Nat) (f : Unit), (List.replicate (n * sz) ())[q]? = some f → ∃ u, w.cell? ⟨b, 0 + q, none⟩ = some u ∧ u.oneCell' = true ∧ True := fun q f hq => by
            rw [List.getElem?_replicate] at hq
            split at hq
            · rename_i hlt
              have hi : q / sz < rows.length := by rw [hrl]; exact (Nat.div_lt_iff_lt_mul h0).2 hlt
              have hr : (rows[q / sz]).length = sz := hRR.2.1 _ (List.getElem_mem hi)
              have hj : q % sz < (rows[q / sz]).length := by rw [hr]; exact Nat.mod_lt _ h0
              obtain ⟨u, hu, ho1, _⟩ := hRR.2.2 (q / sz) (q % sz) (rows[q / sz]) ((rows[q / sz])[q % sz]) (List.getElem?_eq_getElem hi) (List.getElem?_eq_getElem hj)
              refine ⟨u, ?_, ho1, trivial⟩
              have : q / sz * sz + q % sz = q := by rw [Nat.mul_comm]; exact Nat.div_add_mod q sz
              rw [this] at hu
              rw [Nat.zero_add]; exact own_cell hcb hu
            · cases hq
          obtain ⟨olds, n1, n2, _⟩ := cells_list (R := fun _ _ => True) holds
          rw [List.length_replicate] at n1
          have hrun := run_append_grow (P := P) w t ty e i z hd.h hi i3 ⟨b, 0, none⟩ n cap olds (by rw [i1]; exact n1) (fun j v h => (n2 j v h).1) ⟨bx, ox, none⟩ rs.length cx news (by rw [i1]; exact hnl) hnw (by omega) (by unfold maxLen at hmx; omega) (growslice_fits (by omega) (by rw [i2]; exact hbd))
          obtain ⟨m', k1, k2, k3⟩ := fresh (grownCap w (n + rs.length) cap e) olds _ w.drew hdrew hm.drew n1 (fun i j r p hi hj => by
            obtain ⟨u, hu, ho1, hp⟩ := hRR.2.2 i j r p hi hj
            have hii : i < rows.length := (List.getElem?_eq_some_iff.1 hi).1
            have hjj : j < sz := by rw [← hRR.2.1 r (List.mem_of_getElem? hi)]; exact (List.getElem?_eq_some_iff.1 hj).1
            have : (i + 1) * sz ≤ rows.length * sz := Nat.mul_le_mul_right _ hii
            rw [Nat.add_mul, Nat.one_mul, hrl] at this
            have hlt : i * sz + j < olds.length := by rw [n1]; omega
            have hn2 := (n2 (i * sz + j) olds[i * sz + j] (by simp [hlt])).1
            rw [add_none, Nat.zero_add, own_cell hcb hu] at hn2
            cases hn2
            exact ⟨_, by simp [hlt], ho1, hp⟩) hRR.2.1 (grownCap_ge w _ _ _) (grownCap_le_maxLen w _ _ _ hmx) rfl
          exact ⟨_, _, m', hrun, k1, k2, k3⟩

theorem op_append {e : TypeId} {sz by_ id n : Nat} {z : Value} {rows rs : List (List FV)} [hd : TyD P t (.slice e)] [hn : TyN P e sz by_ z] (ho : o.op = .call { callee := .builtin .append, args := #[x, y], argTypes := #[t, t] })
    (hx : Opd G g x (.sl id sz 0 n)) (hy : Opd G g y (.fz (.vals sz rs))) (hl : hlook H id = some (.flat sz rows)) (hrl : rows.length = n) (h0 : Nat.blt 0 sz = true) (hzs : Nat.beq z.cells.size sz = true) (hbd : (n + rs.length) * by_ ≤ 140737488355328) (hmx : n + rs.length ≤ 4611686018427387904) :
    OpS P o g G H nx (.sl nx sz 0 (n + rs.length)) ((nx, some (.flat sz (rows ++ rs))) :: (id, none) :: H) (nx + 1) :=
  ⟨fun C S m a w hm hg ha K Q hK => by
    have h1 := hx.rep hg (by simp [ho, Op.operands, Call.operands]) ha
    have h2 := (hy.rep hg (by simp [ho, Op.operands, Call.operands]) ha).frz
    obtain ⟨v, w', m', r1, r2, r3, r4⟩ := append_core (P := P) (t := t) (ty := o.type) hm h1 hl hrl (src_fz h2) (blt_of h0) (Nat.eq_of_beq_eq_true hzs) hbd (by unfold maxLen; omega)
    refine wp_value (w' := w') (v := v) ?_ (hK _ _ _ _ r2 r3 r4)
    simp [execOp, ho, resolve, invoke, builtin, r1]⟩
/-- what is appended is itself an owned slice, which stays -/
theorem op_append_own {e : TypeId} {sz by_ id n id2 lo len : Nat} {z : Value} {rows rows2 rs : List (List FV)} [hd : TyD P t (.slice e)] [hn : TyN P e sz by_ z] (ho : o.op = .call { callee := .builtin .append, args := #[x, y], argTypes := #[t, t] })
    (hx : Opd G g x (.sl id sz 0 n)) (hy : Opd G g y (.sl id2 sz lo len)) (hl : hlook H id = some (.flat sz rows)) (hrl : rows.length = n) (hl2 : hlook H id2 = some (.flat sz rows2)) (hrs : (rows2.drop lo).take len = rs) (hlen : rs.length = len) (h0 : Nat.blt 0 sz = true) (hzs : Nat.beq z.cells.size sz = true) (hbd : (n + len) * by_ ≤ 140737488355328) (hmx : n + len ≤ 4611686018427387904) :
    OpS P o g G H nx (.sl nx sz 0 (n + len)) ((nx, some (.flat sz (rows ++ rs))) :: (id, none) :: H) (nx + 1) :=
  ⟨fun C S m a w hm hg ha K Q hK => by
    have h1 := hx.rep hg (by simp [ho, Op.operands, Call.operands]) ha
    have h2 := hy.rep hg (by simp [ho, Op.operands, Call.operands]) ha
    subst hlen
    obtain ⟨v, w', m', r1, r2, r3, r4⟩ := append_core (P := P) (t := t) (ty := o.type) hm h1 hl hrl (src_own hm h2 hl2 hrs rfl) (blt_of h0) (Nat.eq_of_beq_eq_true hzs) hbd (by unfold maxLen; omega)
    refine wp_value (w' := w') (v := v) ?_ (hK _ _ _ _ r2 r3 r4)
    simp [execOp, ho, resolve, invoke, builtin, r1]⟩
theorem op_append_own0 {e : TypeId} {sz by_ id n id2 len : Nat} {z : Value} {rows rs : List (List FV)} [hd : TyD P t (.slice e)] [hn : TyN P e sz by_ z] (ho : o.op = .call { callee := .builtin .append, args := #[x, y], argTypes := #[t, t] })
    (hx : Opd G g x (.sl id sz 0 n)) (hy : Opd G g y (.sl id2 sz 0 len)) (hl : hlook H id = some (.flat sz rows)) (hrl : rows.length = n) (hl2 : hlook H id2 = some (.flat sz rs)) (hlen : rs.length = len) (h0 : Nat.blt 0 sz = true) (hzs : Nat.beq z.cells.size sz = true) (hbd : (n + len) * by_ ≤ 140737488355328) (hmx : n + len ≤ 4611686018427387904) :
    OpS P o g G H nx (.sl nx sz 0 (n + len)) ((nx, some (.flat sz (rows ++ rs))) :: (id, none) :: H) (nx + 1) :=
  op_append_own ho hx hy hl hrl hl2 (by simp [← hlen]) hlen h0 hzs hbd hmx

theorem Mem.nkeep_new {C : Cx} {H : Hp} {nx : Nat} {S : Nat → Prop} {m : Ids} {w : World} (hm : Mem C H nx S m w) (hle : Le S m w S (setM m nx none) w) {sz : Nat} : ∃ ib, Nst C ((nx, some (.flat sz [])) :: H) S (setM m nx none) w ib := by
  refine hm.nkeep hle (Nat.le_refl _) (fun id sz i j isz irows hO => ?_) (fun _ _ _ _ _ _ _ c e _ _ _ k2 k3 => ⟨c, e, k2, k3⟩) (fun b' _ h2 h3 => ⟨rfl, h2, fun id2 o2 h hc => ?_⟩)
  · by_cases h1 : nx = id
    · exact (hO.notPlain (o := .flat _ []) (by rw [hlook_cons, if_pos h1]) trivial).elim
    · exact hO.of fun o2 h => by rwa [hlook_cons, if_neg h1] at h
  · rw [hlook_cons] at h
    by_cases h1 : nx = id2
    · subst h1; rw [setM_self] at hc; cases hc
    · rw [if_neg h1] at h; rw [setM_other (fun e => h1 e.symm)] at hc; exact h3 _ _ h hc
/-- a nil slice taken as0 an owned one that is empty -/
theorem Next.adopt {C : Cx} {N : Nat} {K : Act → World → Prop} (tt sz : Nat) (hl : look G tt = some (.fz (.lit (.slice none 0 0)))) (h : Next C N ((tt, .sl nx sz 0 0) :: G) ((nx, some (.flat sz [])) :: H) (nx + 1) K) : Next C N G H nx K := by
  intro a w hR
  obtain ⟨S, m, hm, hsl⟩ := hR.mem
  have hids : ∀ i y, m i = some y → i ≠ nx := fun i y hi => by have := hm.lt hi; omega
  have hle : Le S m w S (setM m nx none) w := ⟨fun _ h => h, fun _ _ => rfl, fun i y hi => by rw [setM_other (hids i y hi)]; exact hi, fun _ _ h => h⟩
  have ex : ∀ id' o' b, hlook ((nx, some (.flat sz [])) :: H) id' = some o' → setM m nx none id' = some (some b) → id' ≠ nx ∧ hlook H id' = some o' ∧ m id' = some (some b) := fun id' o' b h hb => by
    rw [hlook_cons] at h
    by_cases h1 : nx = id'
    · subst h1; rw [setM_self] at hb; cases hb
    · rw [if_neg h1] at h; rw [setM_other (fun e => h1 e.symm)] at hb; exact ⟨fun e => h1 e.symm, h, hb⟩
  refine h a w ⟨hR.defers, hR.size, S, setM m nx none, hm.step hle ⟨rfl, Nat.le_refl _⟩ rfl rfl (fun _ _ => rfl) (Nat.le_refl _) (fun _ _ _ => rfl) (fun _ h => .inl h) (fun id o ho => ?_) (fun id o b ho hb => ?_) (fun i1 i2 o1 o2 b h1 h2 h3 h4 => ?_) hm.stab (fun i hi => ?_) ?_, fun t q hq => ?_⟩
  · rw [hlook_cons] at ho
    by_cases h1 : nx = id
    · rw [if_pos h1] at ho; cases ho; subst h1; exact .inl ⟨setM_self _ _ _, rfl⟩
    · rw [if_neg h1] at ho; exact (hm.objs id o ho).mono hle (fun _ _ => rfl)
  · obtain ⟨_, k1, k2⟩ := ex id o b ho hb; exact hm.blk id o b k1 k2
  · obtain ⟨_, k1, k2⟩ := ex i1 o1 b h1 h3
    obtain ⟨_, k3, k4⟩ := ex i2 o2 b h2 h4
    exact hm.inj i1 i2 o1 o2 b k1 k3 k2 k4
  · rw [setM_other (by omega)]; exact hm.fresh i (by omega)
  · exact hm.nkeep_new hle
  · rw [look_cons] at hq
    by_cases h1 : tt = t
    · rw [if_pos h1] at hq; cases hq; subst h1
      obtain ⟨v, hv, hr⟩ := hsl tt _ hl
      refine ⟨v, hv, ?_⟩
      rw [hr.lit]; exact .sl0 _ _ (setM_self _ _ _)
    · rw [if_neg h1] at hq; exact (hsl t q hq).mono hle

/-! reslicing 's[lo:hi]' -/
theorem run_slice {e : TypeId} {sz by_ : Nat} {z : Value} [hd : TyD P t (.slice e)] [hn : TyN P e sz by_ z] {w : World} {a : Option Addr} {len cap l h : Nat} {lo hi : Option Value} (h1 : lo = none ∧ l = 0 ∨ ∃ k, lo = some (.int k l)) (h2 : hi = none ∧ h = len ∨ ∃ k, hi = some (.int k h)) (hlh : l ≤ h) (hhc : h ≤ cap) :
    (Instr.sliceAt t (.slice a len cap) lo hi none).run P w = .ok (.slice (if cap = l then a else a.map (·.add (l * sz))) (h - l) (cap - l)) w := by
  have e1 : (Instr.sliceBounds true len cap lo hi none).run P w = .ok (l, h, cap) w := by
    rcases h1 with ⟨rfl, rfl⟩ | ⟨k1, rfl⟩ <;> rcases h2 with ⟨rfl, rfl⟩ | ⟨k2, rfl⟩ <;> simp [Instr.sliceBounds, Instr.sliceBound, asIntOf, hlh, hhc]
  simp [Instr.sliceAt, Instr.slice, run_underlying hd.h, e1, run_size hn]

/-- a bound of a reslicing -/
inductive Bnd (G : Env) (g : Bool) : Option Operand → Nat → Nat → Prop where
  | no (d : Nat) : Bnd G g none d d
  | yes (x : Operand) (k : IntKind) (i : Int) (n d : Nat) : Opd G g x (IV k i) → (g = true → i = n) → Bnd G g (some x) d n
theorem Bnd.val {d n : Nat} {ox : Option Operand} {a : Act} {w : World} {S : Nat → Prop} {m : Ids} (hg : g = true) (hin : ∀ x, ox = some x → x ∈ o.op.operands) (ha : ∀ t q, t ∈ opTmps o → look G t = some q → RepAt w S m a t q) (h : Bnd G g ox d n) :
    ox.map a.eval = none ∧ n = d ∨ ∃ k, ox.map a.eval = some (.int k n) := by
  cases h with
  | no => exact .inl ⟨rfl, rfl⟩
  | yes x k i _ _ hx hi => exact .inr ⟨k, by rw [Option.map_some, (hx.rep hg (hin x rfl) ha).lit, hi hg]⟩

theorem op_slice_fz {e : TypeId} {sz by_ l h : Nat} {z : Value} {rows rs : List (List FV)} {lo hi : Option Operand} [hd : TyD P t (.slice e)] [hn : TyN P e sz by_ z] (ho : o.op = .slice t x lo hi none) (hx : Opd G g x (.fz (.vals sz rows))) (hlo : Bnd G g lo 0 l) (hhi : Bnd G g hi rows.length h)
    (hb : g = true → l ≤ h ∧ h ≤ rows.length ∧ (rows.drop l).take (h - l) = rs) : OpP P o g G (.fz (.vals sz rs)) :=
  .of fun S m a w hg ha => by
    have h1 := (hx.rep hg (by simp [ho, Op.operands]) ha).frz
    obtain ⟨hlh, hhr, hrs⟩ := hb hg
    have b1 := hlo.val (o := o) (a := a) (w := w) (S := S) (m := m) hg (fun x hx => by simp [ho, Op.operands, hx]) ha
    have b2 := hhi.val (o := o) (a := a) (w := w) (S := S) (m := m) hg (fun x hx => by simp [ho, Op.operands, hx]) ha
    generalize hv : a.eval x = v at h1
    cases h1 with
    | nil =>
      simp only [List.length_nil] at b2 hhr
      have hl0 : l = 0 := by omega
      have hh0 : h = 0 := by omega
      subst hl0; subst hh0
      have hr0 : rs = [] := by simpa using hrs.symm
      subst hr0
      rename_i a0 cap0
      have := run_slice (P := P) (t := t) (w := w) (a := a0) (len := 0) (cap := cap0) b1 b2 (Nat.le_refl _) (Nat.zero_le _)
      refine ⟨.slice (if cap0 = 0 then a0 else a0.map (·.add (0 * sz))) (0 - 0) (cap0 - 0), ?_, .fz _ _ (.nil _ _ _)⟩
      simp only [execOp, ho, hv, Option.map_none, Sem.run_bind, this, Result.andThen_ok, Sem.run_pure]
    | vals b off cap _ _ U hS hcap hsz hU hR =>
      have := run_slice (P := P) (t := t) (w := w) (a := some ⟨b, off, none⟩) (len := rows.length) (cap := cap) b1 b2 hlh (by omega)
      refine ⟨_, by simp [execOp, ho, hv, this]; rfl, .fz _ _ ?_⟩
      have hlen : rs.length = h - l := by rw [← hrs]; simp; omega
      have hrow : ∀ i r, rs[i]? = some r → rows[l + i]? = some r := fun i r hi => by
        rw [← hrs, List.getElem?_take] at hi
        split at hi
        · rw [List.getElem?_drop] at hi; exact hi
        · cases hi
      have hszr : ∀ r ∈ rs, r.length = sz := fun r hr => by
        obtain ⟨i, hi, he⟩ := List.getElem_of_mem hr
        exact hsz r (List.mem_of_getElem? (hrow i r (by simp [hi, he])))
      by_cases hcl : cap = l
      · have hr0 : rs = [] := List.eq_nil_of_length_eq_zero (by omega)
        rw [if_pos hcl, show h - l = 0 by omega, hr0]
        exact .vals b off _ sz [] U hS (Nat.zero_le _) (by simp) (fun i j r f h => by simp at h) (fun i j r f h => by simp at h)
      · rw [if_neg hcl, ← hlen]
        simp only [Option.map_some, add_none]
        refine .vals b (off + l * sz) _ sz rs (fun i j => U (l + i) j) hS (by omega) hszr (fun i j r f h1 h2 => ?_) (fun i j r f h1 h2 => hR (l + i) j r f (hrow i r h1) h2)
        rw [show off + l * sz + (i * sz + j) = off + ((l + i) * sz + j) from by rw [Nat.add_mul]; omega]
        exact hU (l + i) j r f (hrow i r h1) h2
/-- of an owned slice, from its head: 's[:h]' -/
theorem op_slice_sl {e : TypeId} {sz by_ id len h : Nat} {z : Value} {rows : List (List FV)} {hi : Option Operand} [hd : TyD P t (.slice e)] [hn : TyN P e sz by_ z] (ho : o.op = .slice t x none hi none) (hx : Opd G g x (.sl id sz 0 len)) (hhi : Bnd G g hi len h)
    (hb : g = true → h ≤ len) (hl : hlook H id = some (.flat sz rows)) (hrl : rows.length = len) : OpS P o g G H nx (.sl nx sz 0 h) ((nx, some (.flat sz (rows.take h))) :: (id, none) :: H) (nx + 1) :=
  ⟨fun C S m a w hm hg ha K Q hK => by
    have h1 := hx.rep hg (by simp [ho, Op.operands]) ha
    have hhl := hb hg
    have b2 := hhi.val (o := o) (a := a) (w := w) (S := S) (m := m) hg (fun x hx => by simp [ho, Op.operands, hx]) ha
    generalize hv : a.eval x = v at h1
    cases h1 with
    | sl0 _ _ hid =>
      have hh0 : h = 0 := by omega
      subst hh0
      have hr0 : rows = [] := List.eq_nil_of_length_eq_zero hrl
      subst hr0
      obtain ⟨k1, k2⟩ := hm.retag hl hid
      have := run_slice (P := P) (t := t) (w := w) (a := none) (len := 0) (cap := 0) (.inl ⟨rfl, rfl⟩) b2 (Nat.le_refl _) (Nat.le_refl _)
      refine wp_value (w' := w) (v := .slice none 0 0) (by simp [execOp, ho, hv, this]) (hK _ _ _ _ (by simpa using k1) k2 (.sl0 _ _ (setM_self _ _ _)))
    | sl _ _ _ _ b cap hid hr hc hmx =>
      have := run_slice (P := P) (t := t) (w := w) (a := some ⟨b, 0 * sz, none⟩) (len := len) (cap := cap) (.inl ⟨rfl, rfl⟩) b2 (Nat.zero_le _) (by omega)
      rcases hm.objs id _ hl with ⟨h2, _⟩ | ⟨b', c, e', h2, hcb, h3, h4, h5⟩
      · rw [hid] at h2; cases h2
      · rw [hid] at h2; cases h2
        obtain ⟨k1, k2⟩ := hm.retag hl hid
        have k3 : Mem C ((nx, some (.flat sz (rows.take h))) :: (id, none) :: H) (nx + 1) S (setM m nx (some b)) w := by
          have hlk : ∀ i o', hlook ((nx, some (.flat sz (rows.take h))) :: (id, none) :: H) i = some o' → ∃ o'', hlook ((nx, some (.flat sz rows)) :: (id, none) :: H) i = some o'' ∧ (i = nx → o' = .flat sz (rows.take h)) ∧ (i ≠ nx → o'' = o') := fun i o' hi => by
            rw [hlook_cons] at hi ⊢
            by_cases hin : nx = i
            · rw [if_pos hin] at hi ⊢; cases hi; exact ⟨_, rfl, fun _ => rfl, fun h => absurd hin.symm h⟩
            · rw [if_neg hin] at hi ⊢; exact ⟨o', hi, fun h => absurd h.symm hin, fun _ => rfl⟩
          refine ⟨k1.os, k1.tape, k1.output, k1.fz, k1.size, k1.frame, k1.le, k1.sub, k1.n0, fun i o' hi => ?_, fun i o' b2 hi hb2 => ?_, fun i1 i2 o1 o2 bb q1 q2 => ?_, k1.stab, k1.fresh, ?_⟩
          · obtain ⟨o'', hi2, hi3, hi4⟩ := hlk i o' hi
            by_cases hin : i = nx
            · have hon := hi3 hin
              subst hin; subst hon
              refine .inr ⟨b, c, e', setM_self _ _ _, hcb, ?_, fun r hr => h4 r (List.mem_of_mem_take hr), fun i j r p q1 q2 => ?_⟩
              · exact Nat.le_trans (Nat.mul_le_mul_right _ (by simp; omega)) h3
              · rw [List.getElem?_take] at q1
                split at q1
                · obtain ⟨u, u1, u2, u3⟩ := h5 i j r p q1 q2
                  exact ⟨u, u1, u2, u3.mono k2.st k2.same⟩
                · cases q1
            · have := hi4 hin; subst this; exact k1.objs i _ hi2
          · obtain ⟨o'', hi2, _⟩ := hlk i o' hi
            exact k1.blk i o'' b2 hi2 hb2
          · obtain ⟨o1', r1, _⟩ := hlk i1 o1 q1
            obtain ⟨o2', r2, _⟩ := hlk i2 o2 q2
            exact k1.inj i1 i2 o1' o2' bb r1 r2
          · refine k1.nkeep (Le.refl _ _ _) (Nat.le_refl _) (fun id sz i j isz irows hO => ?_) (fun _ _ _ _ _ _ _ c e _ _ _ k2 k3 => ⟨c, e, k2, k3⟩) (fun b' _ h2 h3 => ⟨rfl, h2, fun id2 o2 h => ?_⟩)
            · by_cases h1 : nx = id
              · exact (hO.notPlain (o := .flat _ (rows.take h)) (by rw [hlook_cons, if_pos h1]) trivial).elim
              · exact hO.of fun o2 h => by rw [hlook_cons, if_neg h1] at h ⊢; exact h
            · obtain ⟨o'', hi2, _⟩ := hlk id2 o2 h
              exact h3 _ _ hi2
        refine wp_value (w' := w) (v := .slice (some ⟨b, 0 * sz, none⟩) h cap) ?_ (hK _ _ _ _ k3 k2 (.sl _ _ _ _ b cap (setM_self _ _ _) hr (by omega) hmx))
        have e0 : (if cap = 0 then some (⟨b, 0 * sz, none⟩ : Addr) else (some (⟨b, 0 * sz, none⟩ : Addr)).map (·.add (0 * sz))) = some ⟨b, 0 * sz, none⟩ := by split <;> simp [Addr.add]
        simp only [execOp, ho, hv, Option.map_none, Sem.run_bind, this, e0, Nat.sub_zero, Result.andThen_ok, Sem.run_pure]⟩
end
end Go.RT
/- The engine, part 12: calls. -/
namespace Go.RT
set_option linter.all false

class FnB (P : Program) (f : FuncId) : Prop where
  h : ∃ fn, P.funcs[f]? = some fn ∧ (fn.name == "runtime.NumGoroutine") = false ∧ fn.body.isSome = true

section
variable {P : Program} {o : Oper} {g : Bool} {G : Env} {H : Hp} {nx : Nat}

theorem run_call {f : FuncId} [hb : FnB P f] {cf : Operand} {xs : List Operand} {ts : Array TypeId} {a : Act} {w : World} {fs cs : Array Value} (ho : o.op = .call { callee := .value cf, args := xs.toArray, argTypes := ts }) (hf : a.eval cf = .func (.func f) fs cs) :
    (execOp a.eval o).run P w = .ok (.enter f (fs ++ (xs.map a.eval).toArray ++ cs)) w := by
  obtain ⟨fn, h1, h2, h3⟩ := hb.h
  have h4 : ¬ (fn.body = none) := by intro e; rw [e] at h3; cases h3
  have h5 : ¬ (fn.name = "runtime.NumGoroutine") := by simpa using h2
  simp [execOp, ho, resolve, hf, Deferred.ofValue, invoke, callFunc, h1, h4, h5]

theorem wp_enter {f : FuncId} {args : Array Value} {a : Act} {w : World} {K : Act → World → Prop} {Q : Exit → Act → World → Prop} {R : Ending → World → Prop} (h : (execOp a.eval o).run P w = .ok (.enter f args) w) (hc : Calls P f args w R)
    (hk : ∀ e w', R e w' → ∃ v, e = .returned v ∧ K (a.put o.dst v) w') : o.wpE P a w K Q := Oper.wpE_of h (fun _ => by simp) fun _ => ⟨fun h => by simp [FM] at h, callsIn_FM.2 (hc.mono fun e w' hr => by obtain ⟨v, rfl, hk⟩ := hk e w' hr; exact hk)⟩

def renE (L : List Nat) (x : Nat × Option Ob) : Nat × Option Ob := (renI L x.1, x.2.map (renO L))
def callH (L' : List Nat) (Hout : Hp) (L : List Nat) (H : Hp) : Hp := Hout.map (renE L') ++ (L.map fun i => (i, none)) ++ H

theorem hlook_append (A B : Hp) (i : Nat) : hlook (A ++ B) i = if i ∈ A.map (·.1) then hlook A i else hlook B i := by
  induction A with
  | nil => simp
  | cons x A ih =>
    obtain ⟨k, v⟩ := x
    rw [List.cons_append, hlook_cons, hlook_cons, ih]
    by_cases h : k = i
    · subst h; simp
    · simp only [if_neg h, List.map_cons, List.mem_cons, Ne.symm h, false_or]
theorem hlook_kill (L : List Nat) (i : Nat) : hlook (L.map fun i => (i, (none : Option Ob))) i = none := by
  induction L with
  | nil => rfl
  | cons a L ih => rw [List.map_cons, hlook_cons, ih]; split <;> rfl
theorem hlook_ren {L : List Nat} {n : Nat} (hn : L.length = n) (hnd : L.Nodup) : ∀ {A : Hp}, (∀ x ∈ A, x.1 < n) → ∀ i, i < n → hlook (A.map (renE L)) (renI L i) = (hlook A i).map (renO L)
  | [], _, i, _ => rfl
  | (k, v) :: A, hA, i, hi => by
    have hk : k < n := hA (k, v) (by simp)
    rw [List.map_cons, renE, hlook_cons, hlook_cons]
    by_cases h : k = i
    · subst h; simp
    · rw [if_neg h, if_neg (fun e => h (renI_inj hnd (by omega) (by omega) e)), hlook_ren hn hnd (fun x hx => hA x (by simp [hx])) i hi]

/-- what is lent: the callee's numbers, by L, are the caller's -/
structure Lent (L : List Nat) (n : Nat) (H Hin : Hp) : Prop where
  len : L.length = n
  nodup : nodupB L = true
  all : ∀ i, i < n → ∃ o, hlook Hin i = some o
  get : ∀ i o, hlook Hin i = some o → i < n ∧ hlook H (renI L i) = some (renO L o) ∧ ltO n o

theorem Lent.nil (H : Hp) : Lent [] 0 H [] := ⟨rfl, rfl, fun i h => by omega, fun i o h => by cases h⟩

theorem nst_nil {C : Cx} {S : Nat → Prop} {m : Ids} {w : World} : ∃ ib, Nst C [] S m w ib := by
  have no : ∀ id sz i j isz irows, ¬ OwnE [] id sz i j isz irows := fun id sz i j isz irows ⟨_, _, h, _⟩ => by cases h
  exact ⟨fun _ _ _ => none, Nst.mk (fun _ _ _ _ _ _ h => (no _ _ _ _ _ _ h).elim) (fun _ _ _ _ _ _ _ h => (no _ _ _ _ _ _ h).elim) (fun _ _ _ _ _ _ _ _ _ _ _ _ _ h => (no _ _ _ _ _ _ h).elim)⟩
theorem call_coreD {D : Array Value → World → (Ending → World → Prop) → Prop} (hD : ∀ args w R R', D args w R → (∀ e w', R e w' → R' e w') → D args w R') {C : Cx} {S : Nat → Prop} {m : Ids} {w : World} (hm : Mem C H nx S m w) {args : List PV} {n n' : Nat} {Hin Hout : Hp} {res : PV} {L : List Nat} (hM : MeetsD D args n Hin res Hout n') (hL : Lent L n H Hin) (hnn : n ≤ n') (hHo : ∀ x ∈ Hout, x.1 < n')
    {vs : List Value} (hv : vs.length = args.length) (hr : ∀ (i : Nat) (v : Value) (p : PV), vs[i]? = some v → args[i]? = some p → Rep w S m v (renP L p) ∧ ltP n p = true) :
    D vs.toArray w fun e w' => ∃ v S' m', e = .returned v ∧ Mem C (callH (L ++ List.range' nx (n' - n)) Hout L H) (nx + (n' - n)) S' m' w' ∧ Le S m w S' m' w' ∧ Rep w' S' m' v (renP (L ++ List.range' nx (n' - n)) res) := by
  have hnd := nodupB_spec hL.nodup
  have hlen := hL.len
  -- a lent number is known, and lies below nx
  have hknown : ∀ i, i < n → ∃ o x, hlook Hin i = some o ∧ hlook H (renI L i) = some (renO L o) ∧ m (renI L i) = some x ∧ renI L i < nx := fun i hi => by
    obtain ⟨o, ho⟩ := hL.all i hi
    obtain ⟨_, h1, _⟩ := hL.get i o ho
    obtain ⟨x, hx⟩ := (hm.objs _ _ h1).known
    exact ⟨o, x, ho, h1, hx, hm.lt hx⟩
  obtain ⟨ib, hn⟩ := hm.nst
  let own2 : Nat → Prop := fun b => (∃ i o, hlook Hin i = some o ∧ m (renI L i) = some (some b)) ∨ ∃ i sz r j isz irows, OwnE Hin i sz r j isz irows ∧ ib (renI L i) r j = some b
  have hOL : ∀ i sz r j isz irows, OwnE Hin i sz r j isz irows → i < n ∧ OwnE H (renI L i) sz r j isz irows := fun i sz r j isz irows ⟨rows, r1, h1, h2, h3⟩ => by
    obtain ⟨q1, q2, _⟩ := hL.get i _ h1
    exact ⟨q1, _, _, q2, by rw [List.getElem?_map, h2]; rfl, by rw [renPs_eq, List.getElem?_map, h3]; rfl⟩
  have hinner : ∀ id sz r j isz irows b, OwnE H id sz r j isz irows → ib id r j = some b → ¬ S b ∧ b < w.heap.size ∧ (C.w0.heap.size ≤ b ∨ C.own0 b) := fun id sz r j isz irows b hO hb => by
    obtain ⟨_, _, _, _, _, _, _, k4⟩ := hn.at_ _ _ _ _ _ _ hO
    exact k4.blk hb
  have hown2 : ∀ b, own2 b → ¬ S b ∧ b < w.heap.size ∧ (C.w0.heap.size ≤ b ∨ C.own0 b) := fun b h => by
    rcases h with ⟨i, o, h1, h2⟩ | ⟨i, sz, r, j, isz, irows, h1, h2⟩
    · obtain ⟨_, h3, _⟩ := hL.get i o h1
      exact hm.blk _ _ b h3 h2
    · exact hinner _ _ _ _ _ _ b (hOL _ _ _ _ _ _ h1).2 h2
  let C2 : Cx := ⟨w, own2, S, renM L m, n, []⟩
  have hm2 : Mem C2 Hin n C2.S0 C2.m0 C2.w0 := by
    refine ⟨⟨rfl, Nat.le_refl _⟩, rfl, rfl, fun _ _ => rfl, Nat.le_refl _, fun _ _ _ => rfl, Le.refl _ _ _, fun b h => .inl h, fun i x hx => ?_, fun i o h => ?_, fun i o b h hb => ?_, fun i j o1 o2 b h1 h2 h3 h4 => ?_, hm.stab, fun i hi => ?_, ?_⟩
    · simp only [C2, renM] at hx ⊢
      split at hx
      · omega
      · cases hx
    · obtain ⟨h1, h2, h3⟩ := hL.get i o h
      exact (hm.objs _ _ h2).unren (by omega) (by rw [hlen]; exact h3)
    · obtain ⟨h1, h2, h3⟩ := hL.get i o h
      simp only [C2, renM, hlen, h1, if_true] at hb
      obtain ⟨k1, k2, _⟩ := hm.blk _ _ b h2 hb
      exact ⟨k1, k2, .inr (.inl ⟨i, o, h, hb⟩)⟩
    · obtain ⟨a1, a2, _⟩ := hL.get i o1 h1
      obtain ⟨b1, b2, _⟩ := hL.get j o2 h2
      simp only [C2, renM, hlen, a1, b1, if_true] at h3 h4
      exact renI_inj hnd (by omega) (by omega) (hm.inj _ _ _ _ b a2 b2 h3 h4)
    · simp only [C2, renM, hlen]; rw [if_neg (by omega)]
    · refine ⟨_, hn.keep (C' := C2) (renI L) (fun i sz r j isz irows hO => ⟨(hOL _ _ _ _ _ _ hO).2, by simp only [C2, renM, hlen, (hOL _ _ _ _ _ _ hO).1, if_true]⟩) (fun i sz r j isz irows i2 sz2 r2 j2 isz2 irows2 h1 h2 he => renI_inj hnd (by have := (hOL _ _ _ _ _ _ h1).1; omega) (by have := (hOL _ _ _ _ _ _ h2).1; omega) he)
        (fun _ h => h) (fun _ _ => rfl) (fun _ _ _ _ _ _ _ c e _ _ _ k2 k3 => ⟨c, e, k2, k3⟩) (fun i sz r j isz irows b' hO hb h1 h2 h3 h4 => ⟨rfl, h1, h2, .inr (.inr ⟨i, sz, r, j, isz, irows, hO, hb⟩), fun id2 o2 ho2 hc => ?_⟩)⟩
      obtain ⟨q1, q2, _⟩ := hL.get id2 o2 ho2
      simp only [C2, renM, hlen, q1, if_true] at hc
      exact h4 _ _ q2 hc
  refine hD _ _ _ _ (hM.run C2 vs rfl hm2 hv fun i v p h1 h2 => ?_) fun e w' ⟨v, S', m', he, hm', hv'⟩ => ?_
  · obtain ⟨k1, k2⟩ := hr i v p h1 h2
    exact k1.unren p rfl (by rw [hlen]; exact k2)
  · -- the caller's names behind the call
    let k := n' - n
    let m'' : Ids := fun i => if i < nx then m i else if i < nx + k then m' (n + (i - nx)) else none
    let L' := L ++ List.range' nx k
    have hL'len : L'.length = n' := by simp [L', hlen, k]; omega
    have hL'lo : ∀ i, i < n → renI L' i = renI L i := fun i hi => by simp [L', renI, List.getElem?_append_left (show i < L.length by omega)]
    have hL'hi : ∀ i, n ≤ i → i < n' → renI L' i = nx + (i - n) := fun i h1 h2 => by
      simp only [L', renI, List.getD_eq_getElem?_getD]
      rw [List.getElem?_append_right (by omega), hlen, List.getElem?_range' (by omega)]; simp
    have hL'nd : L'.Nodup := by
      refine List.nodup_append.2 ⟨hnd, List.nodup_range', fun a ha b hb => ?_⟩
      obtain ⟨i, hi, he⟩ := List.getElem_of_mem ha
      obtain ⟨_, _, _, _, _, hlt⟩ := hknown i (by omega)
      have : renI L i = a := by simp [renI, hi, he]
      rw [this] at hlt
      have := (List.mem_range'_1.1 hb).1
      omega
    have hfwd : ∀ i x, m' i = some x → i < n' ∧ m'' (renI L' i) = some x := fun i x hx => by
      have hi := hm'.lt hx
      refine ⟨hi, ?_⟩
      by_cases hin : i < n
      · obtain ⟨o, y, _, _, hy, hlt⟩ := hknown i hin
        have : m' i = some y := hm'.le.ids i y (by simp only [C2, renM, hlen, hin, if_true]; exact hy)
        rw [hx] at this; cases this
        rw [hL'lo i hin]
        simp only [m'', hlt, if_true]; exact hy
      · rw [hL'hi i (by omega) hi]
        simp only [m'']
        rw [if_neg (by omega), if_pos (by omega), show n + (nx + (i - n) - nx) = i by omega]; exact hx
    have hle : Le S m w S' m'' w' := ⟨hm'.le.st, hm'.le.same, fun i x hx => by simp only [m'']; rw [if_pos (hm.lt hx)]; exact hx, hm'.le.room⟩
    have hsub : ∀ b, S' b → S b ∨ own2 b ∨ w.heap.size ≤ b := hm'.sub
    have hsame : ∀ b, b < w.heap.size → ¬ own2 b → w'.heap[b]? = w.heap[b]? := hm'.frame
    -- an object behind the call: the callee's, or one that was not lent
    have hcase : ∀ id o, hlook (callH L' Hout L H) id = some o → (∃ i o', i < n' ∧ id = renI L' i ∧ hlook Hout i = some o' ∧ o = renO L' o') ∨ (hlook H id = some o ∧ id ∉ L) := fun id o h => by
      rw [callH, List.append_assoc, hlook_append] at h
      split at h
      · rename_i hmem
        obtain ⟨x, hx, rfl⟩ := List.mem_map.1 hmem
        obtain ⟨y, hy, rfl⟩ := List.mem_map.1 hx
        have hlt := hHo y hy
        have hren := hlook_ren (L := L') hL'len hL'nd hHo y.1 hlt
        simp only [renE] at h
        rw [hren] at h
        obtain ⟨o', ho', rfl⟩ := Option.map_eq_some_iff.1 h
        exact .inl ⟨y.1, o', hlt, rfl, ho', rfl⟩
      · rw [hlook_append] at h
        split at h
        · rw [hlook_kill] at h; cases h
        · rename_i hmem
          exact .inr ⟨h, by simpa using hmem⟩
    have hold : ∀ id o b, hlook H id = some o → id ∉ L → m id = some (some b) → ¬ own2 b := fun id o b h1 h2 h3 h => by
      rcases h with ⟨i, o', h4, h5⟩ | ⟨i, sz, r, j, isz, irows, h4, h5⟩
      · obtain ⟨h6, h7, _⟩ := hL.get i o' h4
        have := hm.inj _ _ _ _ b h1 h7 h3 h5
        exact h2 (by rw [this]; simp [renI, hlen, h6])
      · exact hn.apart _ _ _ _ _ _ b (hOL _ _ _ _ _ _ h4).2 h5 id o h1 h3
    have hmemL : ∀ i, i < n → renI L i ∈ L := fun i hi => by simp [renI, hlen, hi]
    have hold2 : ∀ id sz r j isz irows b, OwnE H id sz r j isz irows → id ∉ L → ib id r j = some b → ¬ own2 b := fun id sz r j isz irows b hO h2 h3 h => by
      rcases h with ⟨i, o', h4, h5⟩ | ⟨i, sz2, r2, j2, isz2, irows2, h4, h5⟩
      · obtain ⟨_, h7, _⟩ := hL.get i o' h4
        exact hn.apart _ _ _ _ _ _ b hO h3 _ _ h7 h5
      · obtain ⟨e, _, _⟩ := hn.inj _ _ _ _ _ _ _ _ _ _ _ _ b hO (hOL _ _ _ _ _ _ h4).2 h3 h5
        exact h2 (by rw [e]; exact hmemL i (hOL _ _ _ _ _ _ h4).1)
    have hmlt : ∀ id x, id < nx → m'' id = some x → m id = some x := fun id x h1 h2 => by simp only [m'', h1, if_true] at h2; exact h2
    have hHlt : ∀ id o, hlook H id = some o → id < nx := fun id o h => by obtain ⟨x, hx⟩ := (hm.objs id o h).known; exact hm.lt hx
    have hblk : ∀ i o' b, hlook Hout i = some o' → m'' (renI L' i) = some (some b) → m' i = some (some b) := fun i o' b h1 h2 => by
      obtain ⟨x, hx⟩ := (hm'.objs i o' h1).known
      rw [(hfwd i x hx).2] at h2; cases h2; exact hx
    refine ⟨v, S', m'', he, hm.step hle hm'.os hm'.tape hm'.output hm'.fz hm'.size (fun b hb hno => hsame b (Nat.lt_of_lt_of_le hb hm.size) fun ho => ?_) (fun b hb => ?_) (fun id o h => ?_) (fun id o b h hb => ?_) (fun i1 i2 o1 o2 b h1 h2 h3 h4 => ?_) hm'.stab (fun i hi => ?_) ?_, hle, hv'.fwd fun i x hx => (hfwd i x hx).2⟩
    · rcases (hown2 b ho).2.2 with h | h
      · omega
      · exact hno h
    · rcases hsub b hb with h | h | h
      · exact .inl h
      · rcases (hown2 b h).2.2 with h | h
        · exact .inr (.inr h)
        · exact .inr (.inl h)
      · exact .inr (.inr (Nat.le_trans hm.size h))
    · rcases hcase id o h with ⟨i, o', _, rfl, h1, rfl⟩ | ⟨h1, h2⟩
      · exact (hm'.objs i o' h1).fwd fun i x hx => (hfwd i x hx).2
      · exact (hm.objs id o h1).mono hle fun b hb => hsame b (hm.blk id o b h1 hb).2.1 (hold id o b h1 h2 hb)
    · rcases hcase id o h with ⟨i, o', _, rfl, h1, rfl⟩ | ⟨h1, h2⟩
      · obtain ⟨k1, k2, k3⟩ := hm'.blk i o' b h1 (hblk i o' b h1 hb)
        refine ⟨k1, k2, ?_⟩
        rcases k3 with h | h
        · exact .inl (Nat.le_trans hm.size h)
        · exact (hown2 b h).2.2
      · have hb' := hmlt id _ (hHlt id o h1) hb
        obtain ⟨k1, k2, k3⟩ := hm.blk id o b h1 hb'
        refine ⟨fun hs => ?_, Nat.lt_of_lt_of_le k2 hm'.size, k3⟩
        rcases hsub b hs with h | h | h
        · exact k1 h
        · exact hold id o b h1 h2 hb' h
        · omega
    · have hmix : ∀ i o' id o, hlook Hout i = some o' → hlook H id = some o → id ∉ L → m'' (renI L' i) = some (some b) → m'' id = some (some b) → False := fun i o' id o q1 q2 q3 q4 q5 => by
        have hb' := hmlt id _ (hHlt id o q2) q5
        obtain ⟨_, k2, _⟩ := hm.blk id o b q2 hb'
        obtain ⟨_, _, k3⟩ := hm'.blk i o' b q1 (hblk i o' b q1 q4)
        rcases k3 with h | h
        · exact absurd k2 (Nat.not_lt.2 h)
        · exact hold id o b q2 q3 hb' h
      rcases hcase i1 o1 h1 with ⟨i, o', _, rfl, a1, rfl⟩ | ⟨a1, a2⟩ <;> rcases hcase i2 o2 h2 with ⟨j, o'', _, rfl, b1, rfl⟩ | ⟨b1, b2⟩
      · exact congrArg _ (hm'.inj i j _ _ b a1 b1 (hblk i _ b a1 h3) (hblk j _ b b1 h4))
      · exact (hmix _ _ _ _ a1 b1 b2 h3 h4).elim
      · exact (hmix _ _ _ _ b1 a1 a2 h4 h3).elim
      · exact hm.inj i1 i2 _ _ b a1 b1 (hmlt i1 _ (hHlt i1 _ a1) h3) (hmlt i2 _ (hHlt i2 _ b1) h4)
    · simp only [m'']
      rw [if_neg (by omega), if_neg (by omega)]
    · obtain ⟨ib', hn'⟩ := hm'.nst
      let ibn : Nat → Nat → Nat → Option Nat := fun id r j => if h : ∃ k, k < n' ∧ id = renI L' k then ib' (Classical.choose h) r j else ib id r j
      have ibA : ∀ k, k < n' → ∀ r j, ibn (renI L' k) r j = ib' k r j := fun k hk r j => by
        have hex : ∃ k2, k2 < n' ∧ renI L' k = renI L' k2 := ⟨k, hk, rfl⟩
        simp only [ibn, dif_pos hex]
        have hc := Classical.choose_spec hex
        rw [← renI_inj hL'nd (by omega) (by omega) hc.2]
      have ibB : ∀ id, id ∉ L → id < nx → ∀ r j, ibn id r j = ib id r j := fun id h1 h2 r j => by
        have hex : ¬ ∃ k2, k2 < n' ∧ id = renI L' k2 := fun ⟨k2, q1, q2⟩ => by
          by_cases hk : k2 < n
          · rw [hL'lo k2 hk] at q2; exact h1 (q2 ▸ hmemL k2 hk)
          · rw [hL'hi k2 (by omega) q1] at q2; omega
        simp only [ibn, dif_neg hex]
      have hOc : ∀ id sz r j isz irows, OwnE (callH L' Hout L H) id sz r j isz irows → (∃ i, i < n' ∧ id = renI L' i ∧ OwnE Hout i sz r j isz irows) ∨ (OwnE H id sz r j isz irows ∧ id ∉ L) := fun id sz r j isz irows ⟨rows, r1, h1, h2, h3⟩ => by
        rcases hcase id _ h1 with ⟨i, o', hi, rfl, q1, q2⟩ | ⟨q1, q2⟩
        · refine .inl ⟨i, hi, rfl, ?_⟩
          cases o' with
          | flat => simp [renO] at q2
          | map => simp [renO] at q2
          | raw => simp [renO] at q2
          | mapc => simp [renO] at q2
          | refs s0 rows0 =>
            simp only [renO] at q2
            injection q2 with e1 e2
            subst e1; subst e2
            rw [List.getElem?_map] at h2
            obtain ⟨r0, hr0, rfl⟩ := Option.map_eq_some_iff.1 h2
            rw [renPs_eq, List.getElem?_map] at h3
            obtain ⟨p0, hp0, e⟩ := Option.map_eq_some_iff.1 h3
            refine ⟨rows0, r0, q1, hr0, ?_⟩
            rw [hp0]
            cases p0 <;> simp only [renP] at e <;> first | (cases e; rfl) | cases e
        · exact .inr ⟨⟨rows, r1, q1, h2, h3⟩, q2⟩
      have hOlt : ∀ id sz r j isz irows, OwnE H id sz r j isz irows → id < nx := fun id sz r j isz irows ⟨rows, r1, h1, _, _⟩ => hHlt id _ h1
      have hinB : ∀ i sz r j isz irows b, OwnE Hout i sz r j isz irows → ib' i r j = some b → w.heap.size ≤ b ∨ own2 b := fun i sz r j isz irows b hO hb => by
        obtain ⟨_, _, _, _, _, _, _, k4⟩ := hn'.at_ _ _ _ _ _ _ hO
        exact (k4.blk hb).2.2
      refine ⟨ibn, ⟨fun id sz r j isz irows hO => ?_, fun id sz r j isz irows b' hO hb id2 o2 ho2 hc => ?_, fun id sz r j isz irows id2 sz2 r2 j2 isz2 irows2 b' hO hO2 h1 h2 => ?_⟩⟩
      · rcases hOc _ _ _ _ _ _ hO with ⟨i, hi, rfl, hO1⟩ | ⟨hO1, hnL⟩
        · obtain ⟨b, c, e, u, k1, k2, k3, k4⟩ := hn'.at_ _ _ _ _ _ _ hO1
          rw [ibA i hi]
          refine ⟨b, c, e, u, (hfwd i _ k1).2, k2, k3, ?_⟩
          rcases k4 with k4 | ⟨b2, c', e', cap, r1, r2, r3, r4, r5, r6, r7, r8, r9, r10, r11⟩ | ⟨b2, c', e', cap, k, junk, r1, r2, r3, r4, r5, r6, r7, r8, r9, r10, r11⟩ | k4
          · exact .inl k4
          · refine .inr (.inl ⟨b2, c', e', cap, r1, r2, r3, r4, r5, r6, r7, r8, r9, ?_, r11⟩)
            rcases r10 with h | h
            · exact .inl (Nat.le_trans hm.size h)
            · exact (hown2 b2 h).2.2
          · refine .inr (.inr (.inl ⟨b2, c', e', cap, k, junk, r1, r2, r3, r4, r5, r6, r7, r8, r9, r10, ?_⟩))
            rcases r11 with h | h
            · exact .inl (Nat.le_trans hm.size h)
            · exact (hown2 b2 h).2.2
          · exact .inr (.inr (.inr k4))
        · obtain ⟨b, c, e, u, k1, k2, k3, k4⟩ := hn.at_ _ _ _ _ _ _ hO1
          have hlt := hOlt _ _ _ _ _ _ hO1
          rw [ibB id hnL hlt]
          have hO1' := hO1
          obtain ⟨rows, r1, q1, _, _⟩ := hO1'
          have hb2 := (hm.blk id _ b q1 k1).2.1
          refine ⟨b, c, e, u, hle.ids _ _ k1, (hsame b hb2 (hold id _ b q1 hnL k1)).trans k2, k3, ?_⟩
          rcases k4 with k4 | ⟨b2, c', e', cap, r1, r2, r3, r4, r5, r6, r7, r8, r9, r10, r11⟩ | ⟨b2, c', e', cap, k, junk, r1, r2, r3, r4, r5, r6, r7, r8, r9, r10, r11⟩ | k4
          · exact .inl k4
          · have hno := hold2 _ _ _ _ _ _ b2 hO1 hnL r1
            refine .inr (.inl ⟨b2, c', e', cap, r1, r2, r3, r4, (hsame b2 r9 hno).trans r5, r6, r7.mono fun v p h => h.mono hle.st hle.same, fun hs => ?_, Nat.lt_of_lt_of_le r9 hm'.size, r10, r11⟩)
            rcases hsub b2 hs with h | h | h
            · exact r8 h
            · exact hno h
            · omega
          · have hno := hold2 _ _ _ _ _ _ b2 hO1 hnL r1
            refine .inr (.inr (.inl ⟨b2, c', e', cap, k, junk, r1, r2, r3, r4, r5, (hsame b2 r10 hno).trans r6, r7, r8.mono fun v p h => h.mono hle.st hle.same, fun hs => ?_, Nat.lt_of_lt_of_le r10 hm'.size, r11⟩))
            rcases hsub b2 hs with h | h | h
            · exact r9 h
            · exact hno h
            · omega
          · exact .inr (.inr (.inr k4))
      · rcases hOc _ _ _ _ _ _ hO with ⟨i, hi, rfl, hO1⟩ | ⟨hO1, hnL⟩
        · rw [ibA i hi] at hb
          rcases hcase id2 o2 ho2 with ⟨i2, o', _, rfl, q1, rfl⟩ | ⟨q1, q2⟩
          · exact hn'.apart _ _ _ _ _ _ b' hO1 hb i2 o' q1 (hblk i2 o' b' q1 hc)
          · have hc' := hmlt id2 _ (hHlt id2 o2 q1) hc
            have := (hm.blk id2 o2 b' q1 hc').2.1
            rcases hinB _ _ _ _ _ _ b' hO1 hb with h | h
            · omega
            · exact hold id2 o2 b' q1 q2 hc' h
        · rw [ibB id hnL (hOlt _ _ _ _ _ _ hO1)] at hb
          rcases hcase id2 o2 ho2 with ⟨i2, o', _, rfl, q1, rfl⟩ | ⟨q1, q2⟩
          · obtain ⟨_, _, k3⟩ := hm'.blk i2 o' b' q1 (hblk i2 o' b' q1 hc)
            have := (hinner _ _ _ _ _ _ b' hO1 hb).2.1
            rcases k3 with h | h
            · exact absurd this (Nat.not_lt.2 h)
            · exact hold2 _ _ _ _ _ _ b' hO1 hnL hb h
          · exact hn.apart _ _ _ _ _ _ b' hO1 hb id2 o2 q1 (hmlt id2 _ (hHlt id2 o2 q1) hc)
      · have hmix : ∀ i sz r j isz irows id sz2 r2 j2 isz2 irows2, OwnE Hout i sz r j isz irows → OwnE H id sz2 r2 j2 isz2 irows2 → id ∉ L → ib' i r j = some b' → ib id r2 j2 = some b' → False := fun i sz r j isz irows id sz2 r2 j2 isz2 irows2 q1 q2 q3 q4 q5 => by
          have := (hinner _ _ _ _ _ _ b' q2 q5).2.1
          rcases hinB _ _ _ _ _ _ b' q1 q4 with h | h
          · omega
          · exact hold2 _ _ _ _ _ _ b' q2 q3 q5 h
        rcases hOc _ _ _ _ _ _ hO with ⟨i, hi, rfl, a1⟩ | ⟨a1, a2⟩ <;> rcases hOc _ _ _ _ _ _ hO2 with ⟨i', hi', rfl, b1⟩ | ⟨b1, b2⟩
        · rw [ibA i hi] at h1; rw [ibA i' hi'] at h2
          obtain ⟨e1, e2, e3⟩ := hn'.inj _ _ _ _ _ _ _ _ _ _ _ _ b' a1 b1 h1 h2
          exact ⟨congrArg _ e1, e2, e3⟩
        · rw [ibA i hi] at h1; rw [ibB _ b2 (hOlt _ _ _ _ _ _ b1)] at h2
          exact (hmix _ _ _ _ _ _ _ _ _ _ _ _ a1 b1 b2 h1 h2).elim
        · rw [ibA i' hi'] at h2; rw [ibB _ a2 (hOlt _ _ _ _ _ _ a1)] at h1
          exact (hmix _ _ _ _ _ _ _ _ _ _ _ _ b1 a1 a2 h2 h1).elim
        · rw [ibB _ a2 (hOlt _ _ _ _ _ _ a1)] at h1; rw [ibB _ b2 (hOlt _ _ _ _ _ _ b1)] at h2
          exact hn.inj _ _ _ _ _ _ _ _ _ _ _ _ b' a1 b1 h1 h2

theorem call_core {C : Cx} {S : Nat → Prop} {m : Ids} {w : World} (hm : Mem C H nx S m w) {f : FuncId} {args : List PV} {n n' : Nat} {Hin Hout : Hp} {res : PV} {L : List Nat} (hM : Meets P f args n Hin res Hout n') (hL : Lent L n H Hin) (hnn : n ≤ n') (hHo : ∀ x ∈ Hout, x.1 < n')
    {vs : List Value} (hv : vs.length = args.length) (hr : ∀ (i : Nat) (v : Value) (p : PV), vs[i]? = some v → args[i]? = some p → Rep w S m v (renP L p) ∧ ltP n p = true) :
    Calls P f vs.toArray w fun e w' => ∃ v S' m', e = .returned v ∧ Mem C (callH (L ++ List.range' nx (n' - n)) Hout L H) (nx + (n' - n)) S' m' w' ∧ Le S m w S' m' w' ∧ Rep w' S' m' v (renP (L ++ List.range' nx (n' - n)) res) :=
  call_coreD (D := Calls P f) (fun _ _ _ _ h h2 => Calls.mono h h2) hm ⟨hM.run⟩ hL hnn hHo hv hr

/-- what the call is handed: firsts, arguments, captured -/
theorem call_args {f : FuncId} {cf : Operand} {xs : List Operand} {ts : Array TypeId} {a : Act} {w : World} {S : Nat → Prop} {m : Ids} {fs cs ps : List PV} (hg : g = true) (ha : ∀ t q, t ∈ opTmps o → look G t = some q → RepAt w S m a t q)
    (ho : o.op = .call { callee := .value cf, args := xs.toArray, argTypes := ts }) (hf : Opd G g cf (.clo f fs cs)) (hx : Opds G g xs ps) :
    ∃ vf vc : List Value, a.eval cf = .func (.func f) vf.toArray vc.toArray ∧ (vf ++ xs.map a.eval ++ vc).length = (fs ++ ps ++ cs).length ∧ ∀ (i : Nat) (v : Value) (p : PV), (vf ++ xs.map a.eval ++ vc)[i]? = some v → (fs ++ ps ++ cs)[i]? = some p → Rep w S m v p := by
  have h1 := hf.rep hg (by simp [ho, Op.operands, Call.operands]) ha
  have h2 := hx.rep hg ha (fun x hx => by simp [ho, Op.operands, Call.operands, hx])
  have hl := hx.length
  generalize hv : a.eval cf = v at h1
  cases h1 with
  | clo _ as0 bs _ _ q1 q2 q3 q4 =>
    have q1' : as0.toList.length = fs.length := by simpa using q1
    refine ⟨as0.toList, bs.toList, by simp, by simp [q1, q2, hl], fun i v p hi hp => ?_⟩
    rw [List.append_assoc, List.getElem?_append] at hi hp
    rw [q1'] at hi
    split at hi
    · rename_i hlt
      rw [if_pos hlt] at hp
      exact q3 i v p (by simpa using hi) hp
    · rename_i hlt
      rw [if_neg hlt] at hp
      rw [List.getElem?_append] at hi hp
      rw [List.length_map, hl] at hi
      split at hi
      · rename_i hlt2
        rw [if_pos hlt2] at hp
        exact h2 _ v p hi hp
      · rename_i hlt2
        rw [if_neg hlt2] at hp
        exact q4 _ v p (by simpa using hi) hp

/-- A CALL. -/
theorem op_call {f : FuncId} {cf : Operand} {xs : List Operand} {ts : Array TypeId} {fs cs ps args : List PV} {n n' : Nat} {Hin Hout H' : Hp} {res res' : PV} {nx' : Nat} (L : List Nat) (hM : g = true → Meets P f args n Hin res Hout n') [hb : FnB P f] (ho : o.op = .call { callee := .value cf, args := xs.toArray, argTypes := ts })
    (hf : Opd G g cf (.clo f fs cs)) (hx : Opds G g xs ps) (hargs : fs ++ ps ++ cs = args.map (renP L)) (hlt : args.all (ltP n) = true) (hL : Lent L n H Hin) (hnn : Nat.ble n n' = true) (hHo : Hout.all (fun x => Nat.blt x.1 n') = true)
    (hres : renP (L ++ List.range' nx (n' - n)) res = res') (hH : callH (L ++ List.range' nx (n' - n)) Hout L H = H') (hnx : nx + (n' - n) = nx') : OpS P o g G H nx res' H' nx' :=
  ⟨fun C S m a w hm hg ha K Q hK => by
    subst hres; subst hH; subst hnx
    obtain ⟨vf, vc, e1, e2, e3⟩ := call_args hg ha ho hf hx
    have hrun := run_call (P := P) (f := f) (w := w) ho e1
    have hc := call_core (P := P) hm (hM hg) hL (Nat.le_of_ble_eq_true hnn) (fun x hx => blt_of (List.all_eq_true.1 hHo x hx)) (vs := vf ++ xs.map a.eval ++ vc) (by rw [e2, hargs]; simp) (fun i v p h1 h2 =>
      ⟨e3 i v (renP L p) h1 (by rw [hargs]; simp [h2]), List.all_eq_true.1 hlt p (List.mem_of_getElem? h2)⟩)
    refine wp_enter (by simpa using hrun) hc fun e w' ⟨v, S', m', he, k1, k2, k3⟩ => ⟨v, he, hK v w' S' m' k1 k2 k3⟩⟩

/-- a call on frozen data that hands back frozen data -/
theorem op_call_pure {f : FuncId} {cf : Operand} {xs : List Operand} {ts : Array TypeId} {args : List FV} {res : FV} (hM : g = true → Pure P f args res) [hb : FnB P f] (ho : o.op = .call { callee := .value cf, args := xs.toArray, argTypes := ts })
    (hf : Opd G g cf (.clo f [] [])) (hx : Opds G g xs (args.map PV.fz)) : OpP P o g G (.fz res) := fun H nx =>
  op_call (L := []) (n := 0) (n' := 0) (Hin := []) (Hout := []) hM ho hf hx (by simp [renP]) (by simp [ltP]) (Lent.nil H) rfl rfl rfl rfl rfl
/-- a call on frozen data that hands back a fresh slice -/
theorem op_call_fresh {f : FuncId} {cf : Operand} {xs : List Operand} {ts : Array TypeId} {args : List FV} {sz len : Nat} {rows : List (List FV)} (hM : g = true → Meets P f (args.map PV.fz) 0 [] (.sl 0 sz 0 len) [(0, some (.flat sz rows))] 1) [hb : FnB P f] (ho : o.op = .call { callee := .value cf, args := xs.toArray, argTypes := ts })
    (hf : Opd G g cf (.clo f [] [])) (hx : Opds G g xs (args.map PV.fz)) : OpS P o g G H nx (.sl nx sz 0 len) ((nx, some (.flat sz rows)) :: H) (nx + 1) :=
  op_call (L := []) hM ho hf hx (by simp [renP]) (by simp [ltP]) (Lent.nil H) rfl rfl rfl rfl rfl

mutual
def memless : FV → Bool
  | .lit _ => true
  | .agg fs => memlesss fs
  | .tup fs => memlesss fs
  | _ => false
def memlesss : List FV → Bool
  | [] => true
  | f :: r => memless f && memlesss r
end
theorem memlesss_mem : ∀ {fs : List FV}, memlesss fs = true → ∀ f ∈ fs, memless f = true
  | [], _, f, h => by simp at h
  | q :: r, hb, f, h => by
    simp only [memlesss, Bool.and_eq_true] at hb
    rcases List.mem_cons.1 h with rfl | h
    · exact hb.1
    · exact memlesss_mem hb.2 f h
theorem FRep.memless {w w' : World} {S S' : Nat → Prop} {v : Value} {f : FV} (h : FRep w S v f) : RT.memless f = true → FRep w' S' v f := by
  induction h with
  | lit v => exact fun _ => .lit v
  | agg cs fs hl _ h1 ih => exact fun hm => .agg cs fs hl (fun i c f hc hf => ih i c f hc hf (memlesss_mem (by simpa [RT.memless] using hm) f (List.mem_of_getElem? hf))) h1
  | tup cs fs hl _ ih => exact fun hm => .tup cs fs hl (fun i c f hc hf => ih i c f hc hf (memlesss_mem (by simpa [RT.memless] using hm) f (List.mem_of_getElem? hf)))
  | clo => exact fun hm => by simp [RT.memless] at hm
  | nil => exact fun hm => by simp [RT.memless] at hm
  | vals => exact fun hm => by simp [RT.memless] at hm
  | cellp => exact fun hm => by simp [RT.memless] at hm
  | mapn => exact fun hm => by simp [RT.memless] at hm
  | mapv => exact fun hm => by simp [RT.memless] at hm

/-- operands read as0 frozen for the time of a call -/
inductive AsFs (H : Hp) (F : List Nat) : List PV → List FV → Prop where
  | nil : AsFs H F [] []
  | cons (p : PV) (f : FV) (ps : List PV) (fs : List FV) : AsF H F p f → AsFs H F ps fs → AsFs H F (p :: ps) (f :: fs)
theorem AsFs.get {H : Hp} {F : List Nat} {ps : List PV} {fs : List FV} (h : AsFs H F ps fs) : ps.length = fs.length ∧ ∀ (i : Nat) (p : PV) (f : FV), ps[i]? = some p → fs[i]? = some f → AsF H F p f := by
  induction h with
  | nil => exact ⟨rfl, fun i p f h => by simp at h⟩
  | cons p f ps fs h _ ih =>
    refine ⟨by simp [ih.1], fun i q r hq hr => ?_⟩
    cases i with
    | zero => simp at hq hr; subst hq; subst hr; exact h
    | succ i => exact ih.2 i q r (by simpa using hq) (by simpa using hr)

theorem AsF.agree {H H' : Hp} {F : List Nat} (ha : ∀ i, F.contains i = true → hlook H' i = hlook H i) {p : PV} {f : FV} (h : AsF H F p f) : AsF H' F p f := by
  induction h with
  | fz f => exact .fz f
  | sl id sz lo len rows rs h1 h2 h3 h4 => exact .sl id sz lo len rows rs h1 ((ha id h1).trans h2) h3 h4
  | slr id sz lo len rows rs h1 h2 h3 h4 _ h6 ih => exact .slr id sz lo len rows rs h1 ((ha id h1).trans h2) h3 h4 ih h6
  | agg ps fs h1 _ ih => exact .agg ps fs h1 ih
  | tup ps fs h1 _ ih => exact .tup ps fs h1 ih
  | nil sz => exact .nil sz
  | clo g ps fs h1 _ ih => exact .clo g ps fs h1 ih
  | ptr id sz row col rows r fs h1 h2 h3 h4 => exact .ptr id sz row col rows r fs h1 ((ha id h1).trans h2) h3 h4
  | mp id ks vs h1 h2 => exact .mp id ks vs h1 ((ha id h1).trans h2)
theorem AsFs.agree {H H' : Hp} {F : List Nat} (ha : ∀ i, F.contains i = true → hlook H' i = hlook H i) {ps : List PV} {fs : List FV} (h : AsFs H F ps fs) : AsFs H' F ps fs := by
  induction h with
  | nil => exact .nil
  | cons p f ps fs h _ ih => exact .cons p f ps fs (h.agree ha) ih
/-- a call that reads owned objects for its time, and hands back plain values -/
theorem op_call_lendS {f : FuncId} {cf : Operand} {xs : List Operand} {ts : Array TypeId} {ps : List PV} {args : List FV} {res : FV} (F : List Nat) (hM : g = true → Pure P f args res) [hb : FnB P f] (ho : o.op = .call { callee := .value cf, args := xs.toArray, argTypes := ts })
    (hf : Opd G g cf (.clo f [] [])) (hx : Opds G g xs ps) (hps : AsFs H F ps args) (hF : F.all (fun id => (hlook H id).isSome) = true) (hml : memless res = true) : OpS P o g G H nx (.fz res) H nx :=
  ⟨fun C S m a w hm hg ha K Q hK => by
    obtain ⟨vf, vc, e1, e2, e3⟩ := call_args hg ha ho hf hx
    have hrun := run_call (P := P) (f := f) (w := w) ho e1
    obtain ⟨p1, p2⟩ := hps.get
    let C2 : Cx := ⟨w, fun _ => False, addF S m F, fun _ => none, 0, []⟩
    have hm2 : Mem C2 [] 0 C2.S0 C2.m0 C2.w0 := by
      refine ⟨⟨rfl, Nat.le_refl _⟩, rfl, rfl, fun _ _ => rfl, Nat.le_refl _, fun _ _ _ => rfl, Le.refl _ _ _, fun b h => .inl h, fun i x hx => (by cases hx), fun i o h => (by cases h), fun i o b h => (by cases h), fun i j o1 o2 b h => (by cases h), fun b hb => ?_, fun _ _ => rfl, nst_nil⟩
      rcases hb with hb | ⟨id, hid, hb⟩
      · exact hm.stab b hb
      · have := List.all_eq_true.1 hF id (by simpa using hid)
        obtain ⟨o2, ho2⟩ := Option.isSome_iff_exists.1 this
        exact (hm.blk id o2 b ho2 hb).2.1
    have hc := (hM hg).run C2 (vf ++ xs.map a.eval ++ vc) rfl hm2 (by rw [e2]; simp [p1]) (fun i v p h1 h2 => by
      rw [List.getElem?_map] at h2
      obtain ⟨q, hq, rfl⟩ := Option.map_eq_some_iff.1 h2
      have hi : i < ps.length := by rw [p1]; exact (List.getElem?_eq_some_iff.1 hq).1
      have hp : ps[i]? = some ps[i] := by simp [hi]
      exact .fz _ _ ((p2 i _ q hp hq).rep hm (fun b h => .inl h) (fun id b h1 h2 => .inr ⟨id, h1, h2⟩) v (e3 i v ps[i] h1 (by simpa using hp))))
    refine wp_enter (by simpa using hrun) hc fun e w' ⟨v, S', m', he, k1, k2⟩ => ⟨v, he, ?_⟩
    have hsame : ∀ b, b < w.heap.size → w'.heap[b]? = w.heap[b]? := fun b hb => k1.frame b hb (fun h => h)
    have hle : Le S m w S m w' := ⟨fun _ h => h, fun b hb => hsame b (hm.stab b hb), fun _ _ h => h, k1.le.room⟩
    refine hK v w' S m (hm.step hle k1.os k1.tape k1.output k1.fz k1.size (fun b hb _ => hsame b (Nat.lt_of_lt_of_le hb hm.size)) (fun b h => .inl h) (fun id o2 h => (hm.objs id o2 h).mono hle fun b hb => hsame b (hm.blk id o2 b h hb).2.1) (fun id o2 b h hb => ?_) hm.inj (fun b hb => Nat.lt_of_lt_of_le (hm.stab b hb) k1.size) hm.fresh (hm.nkeep hle k1.size (fun _ _ _ _ _ _ h => h) (fun id sz i j isz irows b2 c2 e2 u _ _ q2 q3 => ⟨c2, e2, (hsame b2 (Array.getElem?_eq_some_iff.1 q2).1).trans q2, q3⟩) (fun b' h1 h2 h3 => ⟨hsame b' h1, h2, h3⟩))) hle (.fz _ _ (k2.frz.memless hml))
    obtain ⟨q1, q2, q3⟩ := hm.blk id o2 b h hb
    exact ⟨q1, Nat.lt_of_lt_of_le q2 k1.size, q3⟩⟩
theorem op_call_lend {f : FuncId} {cf : Operand} {xs : List Operand} {ts : Array TypeId} {ps : List PV} {args : List FV} {res : FV} (F : List Nat) (hM : g = true → Pure P f args res) [hb : FnB P f] (ho : o.op = .call { callee := .value cf, args := xs.toArray, argTypes := ts })
    (hf : Opd G g cf (.clo f [] [])) (hx : Opds G g xs ps) (hps : AsFs H F ps args) (hF : F.all (fun id => (hlook H id).isSome) = true) (hml : memless res = true) : OpL P o g G H F (.fz res) := fun H' nx' ha =>
  op_call_lendS F hM ho hf hx (hps.agree ha) (by
    rw [List.all_eq_true] at hF ⊢
    exact fun i hi => by rw [ha i (by simpa using hi)]; exact hF i hi) hml
end
end Go.RT
/- The engine, part 13: the steps of a walk, as0 they are met. -/
namespace Go.RT
set_option linter.all false
section
variable {r : Option Nat} {P : Program} {C : Cx} {N : Nat} {G : Env} {H : Hp} {nx : Nat} {Q : Exit → Act → World → Prop} {K : Act → World → Prop}

theorem s_then (h : Next C N G H nx K) : Next C N G H nx (Exit.then K Q .normal) := h
theorem s_then_ret (h : Next C N G H nx (Q .ret)) : Next C N G H nx (Exit.then K Q .ret) := h
theorem s_then_exit {id : Nat} (h : Next C N G H nx (Q (.exit id))) : Next C N G H nx (Exit.then K Q (.exit id)) := h
theorem s_blk (id : Nat) (h : Next C N G H nx (Q .normal)) : Next C N G H nx (Exit.inBlock id Q .normal) := h
theorem s_blk_ret {id : Nat} (h : Next C N G H nx (Q .ret)) : Next C N G H nx (Exit.inBlock id Q .ret) := h
theorem s_blk_hit {id : Nat} (h : Next C N G H nx (Q .normal)) : Next C N G H nx (Exit.inBlock id Q (.exit id)) := by rw [blk_hit]; exact h
theorem s_blk_miss {id id' : Nat} (hb : Nat.beq id' id = false) (h : Next C N G H nx (Q (.exit id'))) : Next C N G H nx (Exit.inBlock id Q (.exit id')) := by rw [blk_miss hb]; exact h

/-- H1 is H with entries ahead of it -/
inductive Ext : Hp → Hp → List Nat → Prop where
  | refl (H : Hp) : Ext H H []
  | cons (i : Nat) (o : Option Ob) (H1 H : Hp) (W : List Nat) : Ext H1 H W → Ext ((i, o) :: H1) H (i :: W)
theorem Ext.chg {H1 H : Hp} {W : List Nat} (h : Ext H1 H W) : Chg (some W) H1 H := by
  intro L hL i hi
  cases hL
  induction h with
  | refl => rfl
  | cons j o H1 H W _ ih =>
    simp only [List.contains_cons, Bool.or_eq_false_iff, beq_eq_false_iff_ne] at hi
    rw [hlook_cons, if_neg (fun e => hi.1 e.symm)]
    exact ih hi.2
/-- the lexical run with what follows: nothing is left open but the value that each operation yields -/
inductive Run (P : Program) (ops : Array Oper) (F : List Kd → Env → Hp → Nat → Prop) : List Oper → Env → Hp → Nat → List Kd → Prop where
  | nil {G : Env} {H : Hp} {nx : Nat} {ks : List Kd} : F ks.reverse G H nx → Run P ops F [] G H nx ks
  | pure {o : Oper} {rest : List Oper} {G : Env} {H : Hp} {nx : Nat} {ks : List Kd} {p : PV} {dd : Option Tmp} (hg : o.guard = none) (hdd : o.dst = dd)
      (h : ∀ H nx, OpS P o true G H nx p H nx) (tl : Run P ops F rest (gput G dd p) H nx (.p :: ks)) : Run P ops F (o :: rest) G H nx ks
  | pureG {o : Oper} {rest : List Oper} {G : Env} {H : Hp} {nx : Nat} {ks : List Kd} {p : PV} {j : Nat} {b g : Bool} {d : Tmp} {dd : Option Tmp} (hg : o.guard = some (j, b)) (hdd : o.dst = dd)
      (hd : dstOf ops j = some d) (hl : Grd G d b g) (h : ∀ H nx, OpS P o g G H nx p H nx) (tl : Run P ops F rest (gput G dd (.opt g p)) H nx (.p :: ks)) : Run P ops F (o :: rest) G H nx ks
  | load {o : Oper} {rest : List Oper} {G : Env} {H : Hp} {nx : Nat} {ks : List Kd} {p : PV} {dd : Option Tmp} {R : List Nat} (hg : o.guard = none) (hdd : o.dst = dd)
      (h : OpL P o true G H R p) (tl : Run P ops F rest (gput G dd p) H nx (.l R :: ks)) : Run P ops F (o :: rest) G H nx ks
  | loadG {o : Oper} {rest : List Oper} {G : Env} {H : Hp} {nx : Nat} {ks : List Kd} {p : PV} {j : Nat} {b g : Bool} {d : Tmp} {dd : Option Tmp} (hg : o.guard = some (j, b)) (hdd : o.dst = dd)
      (hd : dstOf ops j = some d) (hl : Grd G d b g) {R : List Nat} (h : OpL P o g G H R p) (tl : Run P ops F rest (gput G dd (.opt g p)) H nx (.l R :: ks)) : Run P ops F (o :: rest) G H nx ks
  | eff {o : Oper} {rest : List Oper} {G : Env} {H : Hp} {nx : Nat} {ks : List Kd} {p : PV} {H1 : Hp} {nx1 : Nat} {dd : Option Tmp} (hg : o.guard = none) (hdd : o.dst = dd)
      (h : OpS P o true G H nx p H1 nx1) (tl : Run P ops F rest (gput G dd p) H1 nx1 (.e none :: ks)) : Run P ops F (o :: rest) G H nx ks
  | effG {o : Oper} {rest : List Oper} {G : Env} {H : Hp} {nx : Nat} {ks : List Kd} {p : PV} {H1 : Hp} {nx1 : Nat} {j : Nat} {b g : Bool} {d : Tmp} {dd : Option Tmp} (hg : o.guard = some (j, b)) (hdd : o.dst = dd)
      (hd : dstOf ops j = some d) (hl : Grd G d b g) (hgt : g = true) (h : OpS P o g G H nx p H1 nx1) (tl : Run P ops F rest (gput G dd (.opt g p)) H1 nx1 (.e none :: ks)) : Run P ops F (o :: rest) G H nx ks
  | effW {o : Oper} {rest : List Oper} {G : Env} {H : Hp} {nx : Nat} {ks : List Kd} {p : PV} {H1 : Hp} {nx1 : Nat} {dd : Option Tmp} {W : List Nat} (hg : o.guard = none) (hdd : o.dst = dd)
      (h : OpS P o true G H nx p H1 nx1) (hW : Ext H1 H W) (tl : Run P ops F rest (gput G dd p) H1 nx1 (.e (some W) :: ks)) : Run P ops F (o :: rest) G H nx ks

theorem Run.der {P : Program} {ops : Array Oper} {F : List Kd → Env → Hp → Nat → Prop} {l : List Oper} {G : Env} {H : Hp} {nx : Nat} {k0 : List Kd} (h : Run P ops F l G H nx k0) : ∃ ks G' H' nx', Der P ops l G H nx ks G' H' nx' ∧ F (k0.reverse ++ ks) G' H' nx' := by
  induction h with
  | nil h => exact ⟨[], _, _, _, .nil, by simpa using h⟩
  | pure hg hdd h _ ih => subst hdd; obtain ⟨ks, G', H', nx', hd, hF⟩ := ih; exact ⟨_, _, _, _, .pure hg h hd, by simpa using hF⟩
  | pureG hg hdd hd hl h _ ih => subst hdd; obtain ⟨ks, G', H', nx', hd', hF⟩ := ih; exact ⟨_, _, _, _, .pureG hg hd hl h hd', by simpa using hF⟩
  | load hg hdd h _ ih => subst hdd; obtain ⟨ks, G', H', nx', hd, hF⟩ := ih; exact ⟨_, _, _, _, .load hg h hd, by simpa using hF⟩
  | loadG hg hdd hd hl h _ ih => subst hdd; obtain ⟨ks, G', H', nx', hd', hF⟩ := ih; exact ⟨_, _, _, _, .loadG hg hd hl h hd', by simpa using hF⟩
  | eff hg hdd h _ ih => subst hdd; obtain ⟨ks, G', H', nx', hd, hF⟩ := ih; exact ⟨_, _, _, _, .eff hg h (W := none) (fun _ h => by cases h) hd, by simpa using hF⟩
  | effG hg hdd hd hl hgt h _ ih => subst hdd; obtain ⟨ks, G', H', nx', hd', hF⟩ := ih; exact ⟨_, _, _, _, .effG hg hd hl hgt h (W := none) (fun _ h => by cases h) hd', by simpa using hF⟩
  | effW hg hdd h hW _ ih => subst hdd; obtain ⟨ks, G', H', nx', hd, hF⟩ := ih; exact ⟨_, _, _, _, .eff hg h hW.chg hd, by simpa using hF⟩

structure FinR (C : Cx) (N : Nat) (l : List Oper) (K : Act → World → Prop) (ks : List Kd) (G : Env) (H : Hp) (nx : Nat) : Prop where
  next : Next C N G H nx K
structure FinD (C : Cx) (N : Nat) (l : List Oper) (K : Act → World → Prop) (ks : List Kd) (G : Env) (H : Hp) (nx : Nat) : Prop where
  ok : regOK l.toArray ks N = true
  next : Next C N G H nx K

theorem s_reg {id : Nat} {l : List Oper} (hok : dstsOK l N = true) (h : Run P l.toArray (FinR C N l (Q .normal)) l G H nx []) : Next C N G H nx ((Code.region id l.toArray false).wpM r P Q) := by
  obtain ⟨ks, G', H', nx', hd, hF⟩ := h.der
  exact plain_region hd hok hF.next
theorem s_draw {id : Nat} {l : List Oper} (hm : P.follows .mixedOrders = true) (h : Run P l.toArray (FinD C N l (Q .normal)) l G H nx []) : Next C N G H nx ((Code.region id l.toArray true).wpM r P Q) := by
  obtain ⟨ks, G', H', nx', hd, hF⟩ := h.der
  exact draw_region hm hd hF.ok hF.next
/-- the end of a pure function: whatever it owns is forgotten -/
theorem s_out0 {fn : Func} (hC : C.n0 = 0) (hres : fn.results = #[]) : Next C N G H nx (Out P fn C (.fz (.tup [])) [] 0 .ret) :=
  Next.weak (G' := []) (H' := []) [] [] rfl (keeps0 hC _) trivial trivial (fun id h => by simp at h) (n_out0 hres)
/-- a result variable, as0 frozen data -/
inductive RV (P : Program) (G : Env) (H : Hp) : ResultVar → FV → Prop where
  | tmp (r : Tmp) (f : FV) : look G r = some (.fz f) → RV P G H (.tmp r) f
  | cell (r : Tmp) (t : TypeId) (id sz by_ : Nat) (z : Value) (fs : List FV) : TyA P t true → TyN P t sz by_ z → look G r = some (.ptr id sz 0 0) → hlook H id = some (.flat sz [fs]) → RV P G H (.cell r t) (.agg fs)
  | cell1 (r : Tmp) (t : TypeId) (id : Nat) (f : FV) : TyA P t false → look G r = some (.ptr id 1 0 0) → hlook H id = some (.flat 1 [[f]]) → RV P G H (.cell r t) f
theorem RV.run {rv : ResultVar} {f : FV} {S : Nat → Prop} {m : Ids} {a : Act} {w : World} (h : RV P G H rv f) (hm : Mem C H nx S m w) (hsl : ∀ t q, look G t = some q → RepAt w S m a t q) :
    ∃ v, FRep w S v f ∧ ((∃ r, rv = .tmp r ∧ a.tmps[r]?.getD undef = v) ∨ ∃ r t ad, rv = .cell r t ∧ a.tmps[r]?.getD undef = .pointer (some ad) ∧ (loadVar t ad).run P w = .ok v w) := by
  cases h with
  | tmp r f hl =>
    obtain ⟨v, hv, hr⟩ := hsl r _ hl
    exact ⟨v, hr.frz, .inl ⟨r, rfl, by simp [hv]⟩⟩
  | cell r t id sz by_ z fs h1 h2 hl hh =>
    obtain ⟨v, hv, hr⟩ := hsl r _ hl
    cases hr with
    | ptr _ _ _ _ b hb =>
      rcases hm.objs id _ hh with ⟨k1, _⟩ | ⟨b', c, e, k1, hc, k3, k4, k5⟩
      · rw [hb] at k1; cases k1
      · rw [hb] at k1; cases k1
        obtain ⟨us, hul, hcc, hrr⟩ := cells_list (w := w) (b := b) (off := 0) (R := FRep w S) (fs := fs) fun j f hf => by
          obtain ⟨u, hu, ho1, hp⟩ := k5 0 j fs f rfl hf
          exact ⟨u, own_cell hc (by simpa using hu), ho1, hp⟩
        have hfl : fs.length = sz := k4 fs (by simp)
        have := run_loadn (P := P) (t := t) (w := w) (ad := ⟨b, 0, none⟩) (by rw [hul, hfl]) (fun j u hu => (hcc j u hu).1)
        exact ⟨.agg us.toArray, frep_agg hul (fun j u hu => (hcc j u hu).2) hrr, .inr ⟨r, t, _, rfl, by simp [hv], this⟩⟩
  | cell1 r t id f h1 hl hh =>
    obtain ⟨v, hv, hr⟩ := hsl r _ hl
    cases hr with
    | ptr _ _ _ _ b hb =>
      rcases hm.objs id _ hh with ⟨k1, _⟩ | ⟨b', c, e, k1, hc, k3, k4, k5⟩
      · rw [hb] at k1; cases k1
      · rw [hb] at k1; cases k1
        obtain ⟨u, hu, _, hp⟩ := k5 0 0 [f] f rfl rfl
        have := run_load1 (P := P) (t := t) (w := w) (ad := ⟨b, 0, none⟩) (own_cell hc (by simpa using hu))
        exact ⟨u, hp, .inr ⟨r, t, _, rfl, by simp [hv], this⟩⟩

theorem s_ofin {fn : Func} {f : FV} (hC : C.n0 = 0) (h : ∀ (S : Nat → Prop) (m : Ids) (a : Act) (w : World), Mem C H nx S m w → (∀ t q, look G t = some q → RepAt w S m a t q) → ∃ v, (results fn a.tmps).run P w = .ok v w ∧ FRep w S v f) : Next C N G H nx (Out P fn C (.fz f) [] 0 .ret) := by
  intro a w hr
  obtain ⟨S, m, hm, hsl⟩ := hr.mem
  obtain ⟨v, h1, h2⟩ := h S m a w hm hsl
  obtain ⟨k1, k2⟩ := hm.weak (L := []) (F := []) (H' := []) rfl (keeps0 hC _) trivial (fun id hid => by simp at hid)
  exact fun hdf => ⟨hr.defers.trans hdf, v, h1, v, _, _, rfl, k1, k2 v _ _ (.fz _ _ h2) (.inl ⟨rfl, rfl⟩)⟩
theorem s_o1 {fn : Func} {f : FV} {rv : ResultVar} (hC : C.n0 = 0) (hres : fn.results = #[rv]) (h : RV P G H rv f) : Next C N G H nx (Out P fn C (.fz f) [] 0 .ret) :=
  s_ofin hC fun S m a w hm hsl => by
    obtain ⟨v, h2, h1⟩ := h.run hm hsl
    refine ⟨v, ?_, h2⟩
    rcases h1 with ⟨r, rfl, e1⟩ | ⟨r, t, ad, rfl, e1, e2⟩ <;> simp [results, hres, asAddr, *]
theorem s_o2 {fn : Func} {f1 f2 : FV} {rv1 rv2 : ResultVar} (hC : C.n0 = 0) (hres : fn.results = #[rv1, rv2]) (h : RV P G H rv1 f1) (h' : RV P G H rv2 f2) : Next C N G H nx (Out P fn C (.fz (.tup [f1, f2])) [] 0 .ret) :=
  s_ofin hC fun S m a w hm hsl => by
    obtain ⟨v1, h2, h1⟩ := h.run hm hsl
    obtain ⟨v2, h4, h3⟩ := h'.run hm hsl
    refine ⟨.tuple #[v1, v2], ?_, (rep_tup2 (m := m) (.fz _ _ h2) (.fz _ _ h4)).frz⟩
    rcases h1 with ⟨r, rfl, e1⟩ | ⟨r, t, ad, rfl, e1, e2⟩ <;> rcases h3 with ⟨r', rfl, e3⟩ | ⟨r', t', ad', rfl, e3, e4⟩ <;> simp [results, hres, asAddr, *]
theorem s_o3 {fn : Func} {f1 f2 f3 : FV} {rv1 rv2 rv3 : ResultVar} (hC : C.n0 = 0) (hres : fn.results = #[rv1, rv2, rv3]) (h : RV P G H rv1 f1) (h' : RV P G H rv2 f2) (h'' : RV P G H rv3 f3) : Next C N G H nx (Out P fn C (.fz (.tup [f1, f2, f3])) [] 0 .ret) :=
  s_ofin hC fun S m a w hm hsl => by
    obtain ⟨v1, h2, h1⟩ := h.run hm hsl
    obtain ⟨v2, h4, h3⟩ := h'.run hm hsl
    obtain ⟨v3, h6, h5⟩ := h''.run hm hsl
    refine ⟨.tuple #[v1, v2, v3], ?_, (rep_tup3 (m := m) (.fz _ _ h2) (.fz _ _ h4) (.fz _ _ h6)).frz⟩
    rcases h1 with ⟨r, rfl, e1⟩ | ⟨r, t, ad, rfl, e1, e2⟩ <;> rcases h3 with ⟨r', rfl, e3⟩ | ⟨r', t', ad', rfl, e3, e4⟩ <;> rcases h5 with ⟨r'', rfl, e5⟩ | ⟨r'', t'', ad'', rfl, e5, e6⟩ <;> simp [results, hres, asAddr, *]
/-- an owned slice handed out, under the number 0 -/
theorem s_outO {fn : Func} {r : Tmp} {id sz len : Nat} {rows : List (List FV)} (hC : C.n0 = 0) (hres : fn.results = #[.tmp r]) (hl : look G r = some (.sl id sz 0 len)) (hh : hlook H id = some (.flat sz rows)) : Next C N G H nx (Out P fn C (.sl 0 sz 0 len) [(0, some (.flat sz rows))] 1 .ret) :=
  Next.weak (G' := [(r, .sl 0 sz 0 len)]) (H' := [(0, some (.flat sz rows))]) [id] [] rfl (keeps0 hC _) ⟨⟨_, hl, .inl ⟨rfl, rfl⟩⟩, trivial⟩ ⟨⟨rfl, rfl, .same _ hh trivial⟩, trivial⟩ (fun id h => by simp at h) (n_out1 hres (by simp [look_cons]) rfl rfl)
/-- the value may be restated -/
theorem castP {o : Oper} {g : Bool} {p p' : PV} (h : g = true → p = p') (hp : ∀ H nx, OpS P o g G H nx p H nx) : ∀ H nx, OpS P o g G H nx p' H nx :=
  fun H nx => ⟨fun C S m a w hm hg ha K Q hK => (hp H nx).runE C S m a w hm hg ha K Q fun v w' S' m' k1 k2 k3 => hK v w' S' m' k1 k2 (h hg ▸ k3)⟩
end
end Go.RT
/- The engine, part 14: '==' on structs of numbers; on bools. -/
namespace Go.RT
set_option linter.all false

def isIntT (P : Program) (t : TypeId) : Bool := match P.underlying t with | some (.int _) => true | _ => false
def isBoolT (P : Program) (t : TypeId) : Bool := match P.underlying t with | some .bool => true | _ => false
def flatInts (P : Program) : List Field → Nat → Nat → Bool
  | [], k, n => k == n
  | f :: r, k, n => f.name != "_" && f.offset == k && (isIntT P f.type || isBoolT P f.type) && flatInts P r (k + 1) n
class EqS (P : Program) (t : TypeId) (n : outParam Nat) : Prop where
  h : P.underlying t = some (.struct (P.fieldsOf t)) ∧ P.stoodInHeld t = false ∧ P.eqGuardType P.depth t = false ∧ flatInts P (P.fieldsOf t).toList 0 n = true

/-- the numbers of two rows, one by one -/
def eqFs : List FV → List FV → Bool
  | [], [] => true
  | .lit (.int _ a) :: r, .lit (.int _ b) :: s => decide (a = b) && eqFs r s
  | .lit (.bool a) :: r, .lit (.bool b) :: s => decide (a = b) && eqFs r s
  | _, _ => false
/-- the cells fit: numbers of like kinds, bools, where the fields say so -/
def fitFs (P : Program) : List Field → List FV → List FV → Bool
  | [], [], [] => true
  | f :: fs, .lit (.int k _) :: r, .lit (.int k' _) :: s => isIntT P f.type && decide (k = k') && fitFs P fs r s
  | f :: fs, .lit (.bool _) :: r, .lit (.bool _) :: s => isBoolT P f.type && fitFs P fs r s
  | _, _, _ => false

theorem run_part1 {P : Program} {t : TypeId} (h : isIntT P t = true ∨ isBoolT P t = true) (cs : Array Value) (off : Nat) {v : Value} (hv : cs[off]? = some v) (w : World) : (part t cs off).run P w = .ok v w := by
  have : TyA P t false := by
    rcases h with h | h
    · unfold isIntT at h
      split at h
      · rename_i k e; exact ⟨_, e, rfl⟩
      · cases h
    · unfold isBoolT at h
      split at h
      · rename_i e; exact ⟨_, e, rfl⟩
      · cases h
  simp [part, run_isAgg this, hv]

theorem eqFields_run {P : Program} {w : World} {S : Nat → Prop} (d : Nat) (xs ys : Array Value) (FX FY : List FV) (hx : xs.size = FX.length) (hy : ys.size = FY.length) (rx : ∀ (i : Nat) (c : Value) (f : FV), xs[i]? = some c → FX[i]? = some f → FRep w S c f) (ry : ∀ (i : Nat) (c : Value) (f : FV), ys[i]? = some c → FY[i]? = some f → FRep w S c f) :
    ∀ (fs : List Field) (k n : Nat), flatInts P fs k n = true → fitFs P fs (FX.drop k) (FY.drop k) = true → (Op.eqFields (d + 1) xs ys fs).run P w = .ok (eqFs (FX.drop k) (FY.drop k)) w
  | [], k, n, _, hfit => by
    generalize FX.drop k = a at *
    generalize FY.drop k = b at *
    match a, b, hfit with
    | [], [], _ => simp [Op.eqFields, eqFs]
  | f :: fs, k, n, hfl, hfit => by
    simp only [flatInts, Bool.and_eq_true, bne_iff_ne, ne_eq, beq_iff_eq, Bool.or_eq_true] at hfl
    obtain ⟨⟨⟨h1, h2⟩, h3⟩, h4⟩ := hfl
    have tail : ∀ (F : List FV) (x : FV) (r : List FV), F.drop k = x :: r → F[k]? = some x ∧ r = F.drop (k + 1) := fun F x r e => by
      have e1 : F[k]? = some x := by rw [← List.head?_drop, e]; rfl
      refine ⟨e1, ?_⟩
      have : (F.drop k).tail = F.drop (k + 1) := by simp
      rw [e] at this; exact this
    have cell : ∀ (A : Array Value) (F : List FV) (x : FV), A.size = F.length → F[k]? = some x → ∃ c, A[k]? = some c := fun A F x hs e => by
      have : k < A.size := by rw [hs]; exact (List.getElem?_eq_some_iff.1 e).1
      exact ⟨A[k], by simp [this]⟩
    generalize ha : FX.drop k = a at *
    generalize hb : FY.drop k = b at *
    match a, b, hfit with
    | .lit (.int k1 u) :: r, .lit (.int k2 v) :: s, hfit =>
      simp only [fitFs, Bool.and_eq_true, decide_eq_true_eq] at hfit
      obtain ⟨⟨q1, rfl⟩, q3⟩ := hfit
      obtain ⟨e1, e2⟩ := tail FX _ _ ha
      obtain ⟨e3, e4⟩ := tail FY _ _ hb
      obtain ⟨c1, hc1⟩ := cell xs FX _ hx e1
      obtain ⟨c2, hc2⟩ := cell ys FY _ hy e3
      have r1 := rx k c1 _ hc1 e1
      have r2 := ry k c2 _ hc2 e3
      cases r1; cases r2
      have hint : ∃ kk, P.underlying f.type = some (.int kk) := by
        unfold isIntT at q1
        split at q1
        · rename_i kk e; exact ⟨kk, e⟩
        · cases q1
      obtain ⟨kk, hkk⟩ := hint
      have ih := eqFields_run d xs ys FX FY hx hy rx ry fs (k + 1) n h4 (by rw [← e2, ← e4]; exact q3)
      rw [← e2, ← e4] at ih
      subst h2
      simp only [Op.eqFields, h1, not_false_eq_true, if_true, Sem.run_bind, run_part1 h3 xs _ hc1, run_part1 h3 ys _ hc2, Result.andThen_ok, run_equalIn_int w d f.type k1 kk u v hkk, eqFs, ne_eq]
      by_cases huv : u = v
      · subst huv; simp [ih]
      · have : (u == v) = false := by simpa using huv
        simp [huv, this]
    | .lit (.bool u) :: r, .lit (.bool v) :: s, hfit =>
      simp only [fitFs, Bool.and_eq_true] at hfit
      obtain ⟨q1, q3⟩ := hfit
      obtain ⟨e1, e2⟩ := tail FX _ _ ha
      obtain ⟨e3, e4⟩ := tail FY _ _ hb
      obtain ⟨c1, hc1⟩ := cell xs FX _ hx e1
      obtain ⟨c2, hc2⟩ := cell ys FY _ hy e3
      have r1 := rx k c1 _ hc1 e1
      have r2 := ry k c2 _ hc2 e3
      cases r1; cases r2
      have hbl : P.underlying f.type = some .bool := by
        unfold isBoolT at q1
        split at q1
        · rename_i e; exact e
        · cases q1
      have ih := eqFields_run d xs ys FX FY hx hy rx ry fs (k + 1) n h4 (by rw [← e2, ← e4]; exact q3)
      rw [← e2, ← e4] at ih
      subst h2
      simp only [Op.eqFields, h1, not_false_eq_true, if_true, Sem.run_bind, run_part1 h3 xs _ hc1, run_part1 h3 ys _ hc2, Result.andThen_ok, run_equalIn_bool' w d f.type u v hbl, eqFs, ne_eq]
      by_cases huv : u = v
      · subst huv; simp [ih]
      · have : (u == v) = false := by simpa using huv
        simp [huv, this]

section
variable {P : Program} {o : Oper} {g : Bool} {G : Env} {x y : Operand} {t t' : TypeId}
theorem op_eqS {n : Nat} {fs gs : List FV} [h : EqS P t n] (ho : o.op = .binOp .eql t x y t') (hx : Opd G g x (.fz (.agg fs))) (hy : Opd G g y (.fz (.agg gs))) (hfit : fitFs P (P.fieldsOf t).toList fs gs = true) : OpP P o g G (BV (eqFs fs gs)) :=
  .of fun S m a w hg ha => by
    obtain ⟨h1, h2, h3, h4⟩ := h.h
    have r1 := (hx.rep hg (by simp [ho, Op.operands]) ha).frz
    have r2 := (hy.rep hg (by simp [ho, Op.operands]) ha).frz
    generalize hv1 : a.eval x = v1 at r1
    generalize hv2 : a.eval y = v2 at r2
    cases r1 with
    | agg cs _ l1 k1 _ =>
      cases r2 with
      | agg ds _ l2 k2 _ =>
        have := eqFields_run (P := P) (w := w) 9998 cs ds fs gs l1 l2 k1 k2 _ 0 n h4 (by simpa using hfit)
        refine ⟨.bool (eqFs fs gs), ?_, .fz _ _ (.lit _)⟩
        simp only [execOp, ho, hv1, hv2, Sem.run_bind, run_eqGuard_agg w _ t x y cs ds h3, Result.andThen_ok, run_eql_struct, run_equalIn_struct w 9999 t cs ds h1 h2]
        simp only [List.drop_zero] at this
        simp [this]
theorem op_neS {n : Nat} {fs gs : List FV} [h : EqS P t n] (ho : o.op = .binOp .neq t x y t') (hx : Opd G g x (.fz (.agg fs))) (hy : Opd G g y (.fz (.agg gs))) (hfit : fitFs P (P.fieldsOf t).toList fs gs = true) : OpP P o g G (BV (!eqFs fs gs)) :=
  .of fun S m a w hg ha => by
    obtain ⟨h1, h2, h3, h4⟩ := h.h
    have r1 := (hx.rep hg (by simp [ho, Op.operands]) ha).frz
    have r2 := (hy.rep hg (by simp [ho, Op.operands]) ha).frz
    generalize hv1 : a.eval x = v1 at r1
    generalize hv2 : a.eval y = v2 at r2
    cases r1 with
    | agg cs _ l1 k1 _ =>
      cases r2 with
      | agg ds _ l2 k2 _ =>
        have := eqFields_run (P := P) (w := w) 9998 cs ds fs gs l1 l2 k1 k2 _ 0 n h4 (by simpa using hfit)
        refine ⟨.bool (!eqFs fs gs), ?_, .fz _ _ (.lit _)⟩
        simp only [execOp, ho, hv1, hv2, Sem.run_bind, run_eqGuard_agg w _ t x y cs ds h3, Result.andThen_ok, run_neq_struct, run_equalIn_struct w 9999 t cs ds h1 h2]
        simp only [List.drop_zero] at this
        simp [this]
theorem op_eqlB {u v : Bool} [hd : TyD P t .bool] (ho : o.op = .binOp .eql t x y t') (hx : Opd G g x (BV u)) (hy : Opd G g y (BV v)) : OpP P o g G (BV (decide (u = v))) :=
  .of fun S m a w hg ha => by
    have r1 := (hx.rep hg (by simp [ho, Op.operands]) ha).lit
    have r2 := (hy.rep hg (by simp [ho, Op.operands]) ha).lit
    refine ⟨.bool (decide (u = v)), ?_, .fz _ _ (.lit _)⟩
    simp [execOp, ho, r1, r2, eqGuard, binOp, Op.equal, Op.maxDepth, run_equalIn_bool' w 9999 t u v hd.h]; cases u <;> cases v <;> rfl
end
end Go.RT
/- The engine, part 15: shifts of natural numbers, and small helps. -/
namespace Go.RT
set_option linter.all false
theorem Sp.whole {α : Type} : ∀ (l cs : List α), l.length = cs.length → Sp l 0 cs cs
  | [], [], _ => .z _
  | a :: l, c :: cs, h => .w a c l cs cs (Sp.whole l cs (by simpa using h))
  | [], c :: cs, h => by simp at h
  | a :: l, [], h => by simp at h
section
variable {P : Program} {o : Oper} {g : Bool} {G : Env} {x y : Operand} {t t' : TypeId} {k : IntKind}
theorem op_shrN {yk : IntKind} {m : Nat} {c : Int} (n : Nat) (ho : o.op = .binOp .shr t x y t') (hx : Opd G g x (IV k m)) (hy : Opd G g y (IV yk c)) (hn : g = true → c = n ∧ n ≤ k.bits) : OpP P o g G (IV k ((m / 2 ^ n : Nat) : Int)) := by
  have := op_shr (P := P) (n := n) ho hx hy hn
  have e : ((m / 2 ^ n : Nat) : Int) = (m : Int) / 2 ^ n := by simp
  rw [e]; exact this
/-- 'x & 1' -/
theorem op_and1 {m : Nat} (ho : o.op = .binOp .and t x y t') (hx : Opd G g x (IV k m)) (hy : Opd G g y (IV k 1)) (hb : g = true → m < 2 ^ k.bits) (h1 : 1 < 2 ^ k.bits) : OpP P o g G (IV k ((m % 2 : Nat) : Int)) := by
  have := op_bits (P := P) (f := (· &&& ·)) (n := m) (m := 1) ho hx hy (.inl ⟨rfl, rfl⟩) (fun hg => ⟨hb hg, h1⟩) (fun _ => by
    simp only [Nat.and_one_is_mod]
    have : m % 2 < 2 := Nat.mod_lt _ (by omega)
    cases k <;> simp only [inr] <;> omega)
  simpa only [Nat.and_one_is_mod] using this
end
end Go.RT
/- The engine, part 16: from a law's contract to the row's statement: arguments read as0 data are frozen data; a call that only makes memory leaves the reading as0 it was. -/
namespace Go.RT
set_option linter.all false
open Go.ChangeShapes Go.WideShapes Go.ChangeAt Go.RowKit

section
variable {H : Type} {enc : TypeId × Value → H} {P : Program} {W : World} {ok : DataW H → Prop} {B : Nat}

/-- what is there when the call begins is frozen for the call -/
abbrev old (W : World) : Nat → Prop := fun b => b < W.heap.size

/-- a condition on readings that goes down to their parts; a slice that meets it has at most B elements -/
structure DnOk (H : Type) (ok : DataW H → Prop) (B : Nat) : Prop where
  slice : ∀ es sp, ok (.slice es sp) → (∀ e ∈ es, ok e) ∧ (es.length ≤ maxLen → es.length ≤ B)
  agg : ∀ ps, ok (.agg ps) → ∀ p ∈ ps, ok p
/-- cells that read at type t (within ok) are frozen data of the form R -/
def RdC (ok : DataW H → Prop) (enc : TypeId × Value → H) (P : Program) (W : World) (t : TypeId) (R : List FV → Prop) : Prop :=
  ∀ (fuel : Nat) (cs : List Value) (x : DataW H × List MemPlace), DataW.trod enc P W 0 (fun _ => true) true fuel t cs = some x → ok x.1 →
    ∃ fs, R fs ∧ fs.length = cs.length ∧ ∀ (i : Nat) (c : Value) (f : FV), cs[i]? = some c → fs[i]? = some f → FRep W (old W) c f ∧ c.oneCell' = true

theorem wf_inr {k : IntKind} {n : Int} (h : (Lit.int k n).wf = true) : inr k n := by
  cases k <;> simp [Lit.wf, IntKind.has, IntKind.min, IntKind.max, IntKind.bits, IntKind.signed] at h <;> simp only [inr] <;> omega

theorem RdC.mono {t : TypeId} {R R' : List FV → Prop} (h : RdC ok enc P W t R) (hr : ∀ fs, R fs → R' fs) : RdC ok enc P W t R' := fun fuel cs x hx ho => by
  obtain ⟨fs, h1, h2⟩ := h fuel cs x hx ho
  exact ⟨fs, hr _ h1, h2⟩

theorem rdc_one {t : TypeId} {R : List FV → Prop} (h : ∀ (fuel : Nat) (cs : List Value) (x : DataW H × List MemPlace), DataW.trod enc P W 0 (fun _ => true) true fuel t cs = some x → ok x.1 → ∃ c f, cs = [c] ∧ R [f] ∧ FRep W (old W) c f ∧ c.oneCell' = true) : RdC ok enc P W t R := fun fuel cs x hx ho => by
  obtain ⟨c, f, rfl, h1, h2, h3⟩ := h fuel cs x hx ho
  refine ⟨[f], h1, rfl, fun i c' f' hc hf => ?_⟩
  match i with
  | 0 => simp at hc hf; subst hc; subst hf; exact ⟨h2, h3⟩
  | i + 1 => simp at hc

theorem rdc_int {t : TypeId} {k : IntKind} (hd : TyD P t (.int k)) : RdC ok enc P W t (fun fs => ∃ n, inr k n ∧ fs = [If k n]) :=
  rdc_one fun fuel cs x hx hok => by
    obtain ⟨n, rfl, _, hw⟩ := DataW.trod_int hd.h hx
    exact ⟨_, If k n, rfl, ⟨n, wf_inr hw, rfl⟩, .lit _, rfl⟩
theorem rdc_bool {t : TypeId} (hd : TyD P t .bool) : RdC ok enc P W t (fun fs => ∃ b, fs = [Bf b]) :=
  rdc_one fun fuel cs x hx hok => by
    obtain ⟨b, rfl, _⟩ := DataW.trod_bool hd.h hx
    exact ⟨_, Bf b, rfl, ⟨b, rfl⟩, .lit _, rfl⟩
theorem add_add' (a : Addr) (m n : Nat) : (a.add m).add n = a.add (m + n) := by
  unfold Addr.add
  by_cases hm : m = 0
  · subst hm; simp
  · by_cases hn : n = 0
    · subst hn; simp
    · simp [hm, hn]; omega
theorem addr_none {w : World} {a : Addr} {n : Nat} {u : Value} (h : w.cell? (a.add n) = some u) : ∃ b off, (n = 0 → a = ⟨b, off, none⟩) ∧ a.block = b ∧ a.off = off := by
  refine ⟨a.block, a.off, fun hn => ?_, rfl, rfl⟩
  subst hn
  have h0 : a.add 0 = a := by simp [Addr.add]
  rw [h0] at h
  obtain ⟨b, o, s⟩ := a
  cases s with
  | none => rfl
  | some s => unfold World.cell? at h; simp at h; split at h <;> simp at h

theorem rdc_slice {t e : TypeId} {sz by_ : Nat} {z : Value} {R : List FV → Prop} (dn : DnOk H ok B) (hd : TyD P t (.slice e)) (hn : TyN P e sz by_ z) (h0 : 0 < sz) (he : RdC ok enc P W e R) :
    RdC ok enc P W t (fun fs => ∃ rows : List (List FV), (∀ r ∈ rows, R r) ∧ rows.length ≤ B ∧ fs = [.vals sz rows]) :=
  rdc_one fun fuel cs x hx hok => by
    have hce : P.cellsOf e = sz := by
      obtain ⟨i, hi, h1, _⟩ := hn.h
      simp [Program.cellsOf, hi, h1]
    rcases DataW.trod_slice hd.h hx with ⟨rfl, _⟩ | ⟨a, len, cap, elems, rest, n, _, rfl, rfl, _, hlc, hcm, hel, hread, _, _⟩
    · exact ⟨_, .vals sz [], rfl, ⟨[], by simp, Nat.zero_le _, rfl⟩, .nil _ _ _, rfl⟩
    · -- the elements, one by one
      obtain ⟨hoe, hob⟩ := dn.slice _ _ hok
      have hob2 := hob (by simp; omega)
      rw [List.length_map, hel] at hob2
      have hrow : ∀ i : Nat, ∃ r : List FV, i < len → R r ∧ r.length = sz ∧ ∀ (j : Nat) (f : FV), r[j]? = some f → ∃ u, W.cell? (a.add (i * sz + j)) = some u ∧ u.oneCell' = true ∧ FRep W (old W) u f := fun i => by
        by_cases hi : i < len
        · have hr := hread i hi
          rw [hce] at hr
          have hsome : elems[i]? = some (elems[i]'(by omega)) := by simp [hel, hi]
          rw [hsome] at hr
          obtain ⟨cs', hc1, hc2⟩ := Option.bind_eq_some_iff.1 hr
          obtain ⟨_, hcl, hcg⟩ := World.cells?_some hc1
          obtain ⟨fs, f1, f2, f3⟩ := he n cs' _ hc2 (hoe _ (List.mem_map_of_mem (List.getElem_mem _)))
          refine ⟨fs, fun _ => ⟨f1, by rw [f2, hcl], fun j f hj => ?_⟩⟩
          have hjl : j < cs'.length := by rw [← f2]; exact (List.getElem?_eq_some_iff.1 hj).1
          have hcj : cs'[j]? = some cs'[j] := by simp [hjl]
          obtain ⟨g1, g2⟩ := f3 j cs'[j] f hcj hj
          have := hcg j (by omega)
          rw [hcj, add_add'] at this
          exact ⟨cs'[j], this, g2, g1⟩
        · exact ⟨[], fun h => absurd h hi⟩
      let rows := (List.range len).map fun i => Classical.choose (hrow i)
      have hrl : rows.length = len := by simp [rows]
      have hget : ∀ i r, rows[i]? = some r → i < len ∧ r = Classical.choose (hrow i) := fun i r h => by
        have hi : i < len := by rw [← hrl]; exact (List.getElem?_eq_some_iff.1 h).1
        simp only [rows, List.getElem?_map, List.getElem?_range hi, Option.map_some, Option.some.injEq] at h
        exact ⟨hi, h.symm⟩
      have hspec := fun i (hi : i < len) => Classical.choose_spec (hrow i) hi
      refine ⟨_, .vals sz rows, rfl, ⟨rows, fun r hr => ?_, by rw [hrl]; omega, rfl⟩, ?_, rfl⟩
      · obtain ⟨i, hi, he2⟩ := List.getElem_of_mem hr
        obtain ⟨h1, h2⟩ := hget i r (by simp [hi, he2])
        rw [h2]; exact (hspec i h1).1
      · by_cases hl0 : len = 0
        · subst hl0
          have : rows = [] := List.eq_nil_of_length_eq_zero hrl
          rw [this]; exact .nil _ _ _
        · have h00 := (hspec 0 (by omega)).2
          have hj0 : (Classical.choose (hrow 0))[0]? = some ((Classical.choose (hrow 0))[0]'(by rw [h00.1]; exact h0)) := by simp [h00.1, h0]
          obtain ⟨u, hu, _⟩ := h00.2 0 _ hj0
          obtain ⟨b, off, hab, _, _⟩ := addr_none hu
          have hae := hab (by simp)
          have hbl : b < W.heap.size := by
            have := World.block_lt_of_cell? W _ hu
            rw [hae] at this; simpa [Addr.add] using this
          have hU : ∀ i j : Nat, ∃ u, ∀ r f, rows[i]? = some r → r[j]? = some f → W.cell? ⟨b, off + (i * sz + j), none⟩ = some u ∧ u.oneCell' = true ∧ FRep W (old W) u f := fun i j => by
            cases hi : rows[i]? with
            | none => exact ⟨undef, fun _ _ h => by cases h⟩
            | some r =>
              cases hj : r[j]? with
              | none => exact ⟨undef, fun r' f h1 h2 => by cases h1; rw [hj] at h2; cases h2⟩
              | some f =>
                obtain ⟨h1, h2⟩ := hget i r hi
                obtain ⟨u, k1, k2, k3⟩ := (hspec i h1).2.2 j f (by rw [← h2]; exact hj)
                rw [hae, add_none] at k1
                exact ⟨u, fun r' f' h1 h2 => by cases h1; rw [hj] at h2; cases h2; exact ⟨k1, k2, k3⟩⟩
          have hU' : ∃ U : Nat → Nat → Value, ∀ i j r f, rows[i]? = some r → r[j]? = some f → W.cell? ⟨b, off + (i * sz + j), none⟩ = some (U i j) ∧ (U i j).oneCell' = true ∧ FRep W (old W) (U i j) f :=
            ⟨fun i j => Classical.choose (hU i j), fun i j r f h1 h2 => Classical.choose_spec (hU i j) r f h1 h2⟩
          obtain ⟨U, hU⟩ := hU'
          rw [hae, ← hrl]
          refine .vals b off cap sz rows U hbl (by omega) (fun r hr => ?_) (fun i j r f h1 h2 => ⟨(hU i j r f h1 h2).1, (hU i j r f h1 h2).2.1⟩) (fun i j r f h1 h2 => (hU i j r f h1 h2).2.2)
          obtain ⟨i, hi, he2⟩ := List.getElem_of_mem hr
          obtain ⟨h1, h2⟩ := hget i r (by simp [hi, he2])
          rw [h2]; exact (hspec i h1).2.1

/-- fields side by side -/
def CatR : List (List FV → Prop) → List FV → Prop
  | [], fs => fs = []
  | R :: Rs, fs => ∃ a b, fs = a ++ b ∧ R a ∧ CatR Rs b
/-- the fields lie side by side from k to n -/
def sideBy (P : Program) : List Field → Nat → Nat → Bool
  | [], k, n => k == n
  | f :: r, k, n => f.offset == k && sideBy P r (k + P.cellsOf f.type) n
inductive RdCs (ok : DataW H → Prop) (enc : TypeId × Value → H) (P : Program) (W : World) : List Field → List (List FV → Prop) → Prop where
  | nil : RdCs ok enc P W [] []
  | cons (f : Field) (fs : List Field) (R : List FV → Prop) (Rs : List (List FV → Prop)) : RdC ok enc P W f.type R → RdCs ok enc P W fs Rs → RdCs ok enc P W (f :: fs) (R :: Rs)

theorem rdc_struct {t : TypeId} {fs : Array Field} {Rs : List (List FV → Prop)} (dn : DnOk H ok B) (hd : P.underlying t = some (.struct fs)) (hs : sideBy P fs.toList 0 (P.cellsOf t) = true) (hR : RdCs ok enc P W fs.toList Rs) : RdC ok enc P W t (CatR Rs) := by
  intro fuel cs x hx hok
  obtain ⟨xs, n, _, rfl, hcl, hxl, hf⟩ := DataW.trod_struct hd hx
  have hoa := dn.agg _ hok
  have key : ∀ (l : List Field) (Rs : List (List FV → Prop)) (k q : Nat), RdCs ok enc P W l Rs → sideBy P l k (P.cellsOf t) = true → (∀ i f, l[i]? = some f → fs[q + i]? = some f) →
      ∃ out, CatR Rs out ∧ out.length = (cs.drop k).length ∧ ∀ (i : Nat) (c : Value) (f : FV), (cs.drop k)[i]? = some c → out[i]? = some f → FRep W (old W) c f ∧ c.oneCell' = true := by
    intro l
    induction l with
    | nil =>
      intro Rs k q hR hsb _
      cases hR
      simp only [sideBy, beq_iff_eq] at hsb
      refine ⟨[], rfl, by simp; omega, fun i c f hc hf => by simp at hf⟩
    | cons f l ih =>
      intro Rs k q hR hsb hq
      cases hR with
      | cons _ _ R Rs' h1 h2 =>
        simp only [sideBy, Bool.and_eq_true, beq_iff_eq] at hsb
        obtain ⟨rfl, hsb⟩ := hsb
        have hfq := hq 0 f rfl
        rw [Nat.add_zero] at hfq
        have hread := hf q f hfq
        have hqx : q < xs.length := by rw [hxl]; exact (Array.getElem?_eq_some_iff.1 hfq).1
        rw [List.getElem?_eq_getElem hqx] at hread
        obtain ⟨a, a1, a2, a3⟩ := h1 n _ _ hread (hoa _ (List.mem_map_of_mem (List.getElem_mem _)))
        obtain ⟨b, b1, b2, b3⟩ := ih Rs' (f.offset + P.cellsOf f.type) (q + 1) h2 hsb (fun i g hg => by
          have := hq (i + 1) g (by simpa using hg)
          rwa [show q + 1 + i = q + (i + 1) by omega])
        -- the piece has the field's size
        have hle : ∀ (l : List Field) (k : Nat), sideBy P l k (P.cellsOf t) = true → k ≤ P.cellsOf t := by
          intro l
          induction l with
          | nil => intro k h; simp only [sideBy, beq_iff_eq] at h; omega
          | cons g l ih => intro k h; simp only [sideBy, Bool.and_eq_true, beq_iff_eq] at h; have := ih _ h.2; omega
        have hle' := hle l _ hsb
        have hal : a.length = P.cellsOf f.type := by rw [a2, List.length_take, List.length_drop]; omega
        refine ⟨a ++ b, ⟨a, b, rfl, a1, b1⟩, ?_, fun i c g hc hg => ?_⟩
        · rw [List.length_append, hal, b2, List.length_drop, List.length_drop]; omega
        · rw [List.getElem?_append] at hg
          split at hg
          · rename_i hlt
            refine a3 i c g ?_ hg
            rw [List.getElem?_take, if_pos (by omega)]; exact hc
          · rename_i hlt
            refine b3 (i - a.length) c g ?_ hg
            rw [List.getElem?_drop] at hc ⊢
            rw [← hc]; congr 1; omega
  have := key fs.toList Rs 0 0 hR hs (fun i f h => by simpa using h)
  simpa using this

theorem okWide_cell {t : TypeId} {r : Reach} {b0 : Nat} {v : Value} {d : TypeDesc} (hd : P.underlying t = some d) (hk : (match d with | .int _ => true | .bool => true | .string => true | .slice _ => true | .map _ _ => true | .pointer _ => true | _ => false) = true) (hval : Value.okWide P W r b0 t v) : v.cells = #[v] := by
  cases d <;> simp at hk <;> simp only [Value.okWide, hd, Cell.okWide] at hval <;> cases v <;> first | rfl | (simp [Cell.ok, hd] at hval)

/-- an argument that is one cell: a number, a bool, a string, a slice -/
theorem arg_cell {t : TypeId} {R : List FV → Prop} {r : Reach} {b0 : Nat} {v : Value} {d : DataW H} {ps : List MemPlace} {ds : TypeDesc} (h : RdC ok enc P W t R) (hdo : ok d) (hd0 : P.underlying t = some ds) (hk : (match ds with | .int _ => true | .bool => true | .string => true | .slice _ => true | .map _ _ => true | .pointer _ => true | _ => false) = true) (hval : Value.okWide P W r b0 t v) (hd : DataW.Trod enc P W 0 (fun _ => true) true t v d ps) :
    ∃ f, R [f] ∧ FRep W (old W) v f := by
  have hone := okWide_cell hd0 hk hval
  obtain ⟨fuel, hf⟩ := hd
  rw [hone] at hf
  obtain ⟨fs, h1, h2, h3⟩ := h fuel _ _ hf hdo
  match fs, h1, h2, h3 with
  | [f], h1, _, h3 => exact ⟨f, h1, (h3 0 v f rfl rfl).1⟩
/-- an argument that is a struct -/
theorem arg_struct {t : TypeId} {R : List FV → Prop} {r : Reach} {b0 : Nat} {v : Value} {d : DataW H} {ps : List MemPlace} {fl : Array Field} (h : RdC ok enc P W t R) (hdo : ok d) (hd0 : P.underlying t = some (.struct fl)) (hval : Value.okWide P W r b0 t v) (hd : DataW.Trod enc P W 0 (fun _ => true) true t v d ps) :
    ∃ fs, R fs ∧ FRep W (old W) v (.agg fs) := by
  simp only [Value.okWide, hd0] at hval
  obtain ⟨cs, rfl, _⟩ := hval
  obtain ⟨fuel, hf⟩ := hd
  obtain ⟨fs, h1, h2, h3⟩ := h fuel _ _ hf hdo
  refine ⟨fs, h1, .agg cs fs (by simpa [Value.cells] using h2.symm) (fun i c f hc hf => (h3 i c f (by simpa [Value.cells] using hc) hf).1) (fun i c hc => ?_)⟩
  have hi : i < fs.length := by rw [h2]; have := (Array.getElem?_eq_some_iff.1 hc).1; simpa [Value.cells] using this
  exact (h3 i c fs[i] (by simpa [Value.cells] using hc) (by simp [hi])).2

/-! the end -/
structure Same (W W' : World) : Prop where
  os : W'.os = W.os
  output : W'.output = W.output
  size : W.heap.size ≤ W'.heap.size
  block : ∀ b, b < W.heap.size → W'.heap[b]? = W.heap[b]?
  fz : ∀ a, a.block < W.heap.size → W'.frozen? a = W.frozen? a

theorem law_calls {k : FuncId} {F : List FV} (hM : Pure P k F (Bf true)) {vs : List Value} (hl : vs.length = F.length) (hr : ∀ (i : Nat) (v : Value) (f : FV), vs[i]? = some v → F[i]? = some f → FRep W (old W) v f) :
    Calls P k vs.toArray W fun e W' => e = .returned (.bool true) ∧ Same W W' := by
  let C : Cx := ⟨W, fun _ => False, old W, fun _ => none, 0, []⟩
  have hm : Mem C [] 0 C.S0 C.m0 C.w0 := ⟨⟨rfl, Nat.le_refl _⟩, rfl, rfl, fun _ _ => rfl, Nat.le_refl _, fun _ _ _ => rfl, Le.refl _ _ _, fun b h => .inl h, fun i x hx => (by cases hx), fun i o h => (by cases h), fun i o b h => (by cases h), fun i j o1 o2 b h => (by cases h), fun b hb => hb, fun _ _ => rfl, nst_nil⟩
  refine (hM.run C vs rfl hm (by simpa using hl) (fun i v p h1 h2 => ?_)).mono fun e W' ⟨v, S', m', he, k1, k2⟩ => ⟨by rw [he, k2.lit], k1.os.1, k1.output, k1.size, fun b hb => k1.frame b hb (fun h => h), k1.fz⟩
  rw [List.getElem?_map] at h2
  obtain ⟨f, hf, rfl⟩ := Option.map_eq_some_iff.1 h2
  exact .fz _ _ (hr i v f h1 hf)

theorem trodAll_stays (hl : laidOutB P = true) {W' : World} {sp : Nat → Bool} (hb : ∀ b, b < W.heap.size → W'.heap[b]? = W.heap[b]?) : ∀ {ts : List TypeId} {vs : List Value} {ds : List (DataW H)} {ps : List MemPlace}, (∀ t ∈ ts, P.readableRec t = true ∧ t < P.types.size) →
    DataW.TrodAll enc P W 0 (fun _ => true) true ts vs ds ps → (∀ p ∈ ps, p.block < W.heap.size) → (∀ p ∈ ps, sp p.block = true) → DataW.TrodAll enc P W' 0 sp true ts vs ds ps
  | [], [], [], _, _, h, _, _ => h
  | t :: ts, v :: vs, d :: ds, _, ht, ⟨p, q, h1, h2, e⟩, hlt, hs => by
    subst e
    refine ⟨p, q, WideElems.Trod_stays hl (ht t (by simp)).1 (ht t (by simp)).2 h1 (fun x hx => ?_) (fun x hx => hs x (List.mem_append_left _ hx)), trodAll_stays hl hb (fun t' h' => ht t' (by simp [h'])) h2 (fun x hx => hlt x (List.mem_append_right _ hx)) (fun x hx => hs x (List.mem_append_right _ hx)), rfl⟩
    have hx' := hlt x (List.mem_append_left _ hx)
    cases x with
    | cell b o => exact World.cell?_of_block (w := W) (hb b hx')
    | map b => exact hb b hx'

theorem post_of_same3 {f : Func} {s : ChangeSpec} {apart fresh handsOn again : Bool} {W W' : World} {args : Array Value} {v : Value} {ds gs : List (DataW H)} {before pa pv : List MemPlace}
    (hW : DataW.Whole enc P f.params.toList s.vars apart W args.toList ds gs before)
    (hres : ∀ (b : Nat) (sp : Nat → Bool) (hd : Bool), DataW.TrodAll enc P W' b sp hd f.resultTypes.toList (v.resultList f.resultTypes.size) (s.fn H (ds ++ gs)).results [])
    (hargs : ∀ sp : Nat → Bool, (∀ p ∈ before, sp p.block = true) → DataW.TrodAll enc P W' 0 sp true f.params.toList args.toList (s.fn H (ds ++ gs)).args pa)
    (hvars : ∀ sp : Nat → Bool, (∀ p ∈ before, sp p.block = true) → DataW.TrodVars enc P W' sp s.vars (s.fn H (ds ++ gs)).vars pv)
    (hps : before = pa ++ pv) (hk : W.keptBut W' (· ∈ before)) (hfz : ∀ a, a.block < W.heap.size → W'.frozen? a = W.frozen? a)
    (hok : ∀ (j : Nat) (t : TypeId) (r : Value), f.resultTypes[j]? = some t → (v.resultList f.resultTypes.size)[j]? = some r → Value.okWide P W' .any 0 t r) :
    s.post enc P f apart fresh handsOn again W args v W' := by
  have hold : ∀ p ∈ before, (fun b => decide (b < W.heap.size)) p.block = true := fun p hp => by simpa using hW.lt p hp
  refine ⟨ds, gs, before, [], pa, pv, hW, hres _ _ _, hargs _ hold, hvars _ hold, World.keptBut_mono (fun p hp => ⟨hp, ?_⟩) hk, fun _ => ?_⟩
  · rw [hps, List.mem_append] at hp
    exact .inr hp
  · have hlt := hW.lt
    obtain ⟨_, _, _, _, _, hz, hn⟩ := hW
    refine ⟨hok, _, _, ([] ++ pa) ++ pv, ⟨[] ++ pa, pv, trodAll_append (hargs _ (fun _ _ => rfl)) (hres _ _ _), hvars _ (fun _ _ => rfl), rfl, ?_, ?_⟩, ?_⟩
    · intro b off hp
      have hp' : MemPlace.cell b off ∈ before := by rw [hps]; simpa using hp
      rw [hfz _ (hlt _ hp')]
      exact hz b off hp'
    · intro ha
      have := hn ha
      rw [hps] at this
      simpa using this
    · intro p hp _
      rw [hps]
      simpa using hp

theorem law_end {f : Func} {s : ChangeSpec} {apart fresh handsOn again : Bool} {W' : World} {args : Array Value} {ds : List (DataW H)} {p : List MemPlace} {tb : TypeId} (hl : laidOutB P = true) (htb : P.underlying tb = some .bool) (hres : f.resultTypes = #[tb])
    (hW' : DataW.Whole enc P f.params.toList s.vars apart W args.toList ds [] p) (hA : DataW.TrodAll enc P W 0 (fun _ => true) true f.params.toList args.toList ds p) (hv : s.vars = []) (hs : s.fn H (ds ++ []) = { results := [.lit (.bool true)], args := ds })
    (hread : ∀ t ∈ f.params.toList, P.readableRec t = true ∧ t < P.types.size) (hS : Same W W') : s.post enc P f apart fresh handsOn again W args (.bool true) W' := by
  refine post_of_same3 (pa := p) (pv := []) hW' (fun _ _ _ => ?_) (fun sp hsp => ?_) (fun sp _ => ?_) (by simp) ⟨hS.os, hS.output, fun i hi => ?_⟩ hS.fz (ok_one hres rfl (okWide_bool_mk htb _))
  · rw [hs, hres]; exact trodAll_mk1 (shut_bool htb _)
  · rw [hs]; exact trodAll_stays hl hS.block hread hA (fun x hx => hW'.lt x hx) hsp
  · rw [hs, hv]; rfl
  · rw [hS.block i hi]
    cases hx : W.heap[i]? with
    | none => trivial
    | some o => cases o <;> first | exact ⟨rfl, rfl, rfl, fun _ _ => rfl⟩ | exact .inr ⟨rfl, rfl⟩ | rfl
end
open Go
theorem slEq {id id' sz n n' : Nat} (h : id = id') (hn : n = n') : PV.sl id sz 0 n = PV.sl id' sz 0 n' := by subst h; subst hn; rfl
theorem ivEq {k : IntKind} {a b : Int} (h : a = b) : IV k a = IV k b := by subst h; rfl
theorem flEq {o : Option Ob} {sz : Nat} {rows rows' : List (List FV)} (h : o = some (.flat sz rows)) (e : rows = rows') : o = some (.flat sz rows') := by subst e; exact h
theorem rfEq {o : Option Ob} {sz : Nat} {rows rows' : List (List PV)} (h : o = some (.refs sz rows)) (e : rows = rows') : o = some (.refs sz rows') := by subst e; exact h
theorem keepsN {C : Cx} {n : Nat} (hn : C.n0 = n) (L : List Nat) (h : (L.take n == List.range n) = true) : keeps C L := by
  have h := eq_of_beq h
  intro i hi
  rw [hn] at hi
  have hl : n ≤ L.length := by
    have := congrArg List.length h
    simp at this; omega
  refine ⟨by omega, ?_⟩
  have h2 : (L.take n)[i]? = some i := by rw [h]; simp [hi]
  rw [List.getElem?_take_of_lt hi] at h2
  unfold renI
  simp [h2]
theorem maxC (a b : Nat) : max (a:Int) (b:Int) = ((max a b : Nat):Int) := by omega
theorem minC (a b : Nat) : min (a:Int) (b:Int) = ((min a b : Nat):Int) := by omega
theorem take0 {α : Type} {rows rs : List α} {n : Nat} (h : rows = rs) (hn : n = rows.length) : (rows.drop 0).take n = rs := by subst h; subst hn; simp
/-- the object that a slot's value leads to -/
def idAt (G : Env) (t : Nat) : Nat := match look G t with
  | some (.sl id _ _ _) => id
  | some (.ptr id _ _ _) => id
  | some (.mp id) => id
  | _ => 0
/-- the objects named by the slots that lead to them -/
theorem Next.weakS {C : Cx} {N : Nat} {G G' : Env} {H H' : Hp} {nx : Nat} {K : Act → World → Prop} (ts fs : List Nat) (hnd : nodupB ((keysH H').map (renI (ts.map (idAt G)))) = true) (hk : keeps C (ts.map (idAt G))) (hG : EntG (ts.map (idAt G)) (fs.map (idAt G)) H G G') (hH : EntH (ts.map (idAt G)) (fs.map (idAt G)) H H')
    (hFH : fs.all (fun t => (hlook H (idAt G t)).isSome) = true)
    (h : Next C N G' H' ts.length K) : Next C N G H nx K := by
  refine Next.weak _ _ hnd hk hG hH (fun id hid => ?_) (by simpa using h)
  simp only [List.contains_eq_mem, decide_eq_true_eq] at hid
  obtain ⟨t, ht, rfl⟩ := List.mem_map.1 hid
  have := List.all_eq_true.1 hFH t ht
  cases hx : hlook H (idAt G t) with
  | none => simp [hx] at this
  | some o => exact ⟨o, rfl⟩
/-! side conditions, named: each is proved by its default tactic -/
theorem tG {α : Prop} (h : α := by first | exact Grd.lit _ rfl | exact Grd.opt _ _ rfl) : α := h
theorem tO {α : Prop} (h : α := by intro h; first | exact h | exact g_and h | exact g_andn h | exact g_and' h | exact g_andn' h | exact g_left h | (simp at h ⊢; first | exact h | simp [h]) | simp_all) : α := h
theorem tH {α : Prop} (h : α := by intro _; first | exact ⟨rfl, rfl⟩ | exact ⟨rfl, by assumption⟩) : α := h
theorem tR {α : Prop} (h : α := by repeat constructor) : α := h
theorem tI {α : Prop} (h : α := by first | (intro _; simp only [inr]; omega) | (intro hg; simp at hg <;> (try simp only [inr]) <;> omega)) : α := h
theorem tM {α : Prop} (h : α := by first | (intro _; (try simp only [inr]); omega) | (intro hg; simp at hg <;> (try simp only [inr]) <;> omega)) : α := h
theorem tC {α : Prop} (h : α := by first | exact CellsF.one _ rfl | exact CellsF.agg _) : α := h
theorem tP {α : Prop} (h : α := by first | exact Cells.one _ rfl | exact Cells.aggF _ _ rfl | exact Cells.agg _ rfl) : α := h
theorem tS {α : Prop} (h : α := by first | exact Sp.whole _ _ rfl | (repeat constructor)) : α := h
theorem tE {α : Prop} (h : α := by first | exact Ext.cons _ _ _ _ _ (Ext.refl _) | exact Ext.cons _ _ _ _ _ (Ext.cons _ _ _ _ _ (Ext.refl _)) | repeat (first | exact Ext.refl _ | refine Ext.cons _ _ _ _ _ ?_)) : α := h
theorem tV {α : Prop} (h : α := by first | exact RV.tmp _ _ rfl | exact RV.cell _ _ _ _ _ _ _ inferInstance inferInstance rfl rfl | exact RV.cell1 _ _ _ _ inferInstance rfl rfl) : α := h
theorem tB {α : Prop} (h : α := by first | omega | (simp only [List.length_cons, List.length_nil, List.length_map, List.length_append]; omega)) : α := h
theorem tL {α : Prop} (h : α := by first | exact trivial | rfl | decide | (intro r hr; simp at hr; subst hr; rfl)) : α := h
theorem tU {α : Prop} (h : α := by first | (simp [renP, renPs, renI]; done) | (simp [renP, renPs, renI]; omega)) : α := h
theorem ent_same {L F : List Nat} {H : Hp} {id : Nat} {o : Ob} (h1 : Nat.blt id L.length = true) (h2 : F.contains (renI L id) = false) (h3 : hlook H (renI L id) = some (renO L o)) (h4 : ltO L.length o) : Nat.blt id L.length = true ∧ F.contains (renI L id) = false ∧ EntO L F H (renI L id) o := ⟨h1, h2, .same _ h3 h4⟩
theorem tN {α : Prop} (h : α := by first | (simp; done) | (simp; omega)) : α := h
theorem tX {α : Prop} (h : α := by first | omega | (dsimp only; omega)) : α := h
theorem tD {α : Prop} (h : α := by intro _; refine ⟨rfl, ?_⟩; omega) : α := h
theorem rowAt {α β : Type} (f : α → β) (l : List α) (i : Nat) (h : i < l.length) : (l.map f)[i]? = some (f l[i]) := by simp [h]
theorem tF {α : Prop} (h : α := by intro _; refine ⟨rfl, ?_⟩; first | rfl | assumption | exact rowAt _ _ _ (by omega) | simp) : α := h
theorem AsF.aggR {H : Hp} {F : List Nat} {ps : List PV} {fs : List FV} (h : AsR H F ps fs) : AsF H F (.agg ps) (.agg fs) :=
  .agg ps fs h.get.1 fun i p f hp hf => by
    obtain ⟨p', h1, h2⟩ := h.get.2 i f hf
    rw [hp] at h1; cases h1; exact h2
theorem AsF.cloR {H : Hp} {F : List Nat} {g : FuncId} {ps : List PV} {fs : List FV} (h : AsR H F ps fs) : AsF H F (.clo g [] ps) (.clo g fs) :=
  .clo g ps fs h.get.1 fun i p f hp hf => by
    obtain ⟨p', h1, h2⟩ := h.get.2 i f hf
    rw [hp] at h1; cases h1; exact h2
theorem AsF.tupR {H : Hp} {F : List Nat} {ps : List PV} {fs : List FV} (h : AsR H F ps fs) : AsF H F (.tup ps) (.tup fs) :=
  .tup ps fs h.get.1 fun i p f hp hf => by
    obtain ⟨p', h1, h2⟩ := h.get.2 i f hf
    rw [hp] at h1; cases h1; exact h2
theorem tQ {α : Prop} (h : α := by intro _; first | rfl | omega) : α := h
theorem tT {α : Prop} (h : α := by intro _; refine ⟨rfl, ?_⟩; (try simp only [List.length_map, List.length_append, List.length_cons, List.length_nil]); omega) : α := h
/-- read as frozen -/
theorem tW {α : Prop} (h : α := by repeat (first | exact AsF.fz _ | exact AsF.nil _ | exact AsR.nil | exact AsRs.nil | refine AsF.aggR ?_ | refine AsF.tupR ?_ | refine AsF.cloR ?_ | exact AsF.ptr _ _ _ _ _ _ _ rfl rfl rfl rfl | refine AsR.cons _ _ _ _ ?_ ?_ | refine AsRs.cons _ _ _ _ ?_ ?_ | exact AsF.sl _ _ 0 _ _ _ rfl rfl (take0 (by first | rfl | (simp; done) | (simp; omega)) (by simp)) (by simp))) : α := h
theorem nK {C : Cx} {N : Nat} {G : Env} {H : Hp} {nx : Nat} {K K' : Act → World → Prop} (h : Next C N G H nx K')
    (hk : Next C N G H nx K' → Next C N G H nx K := by
      intro h
      (repeat (first | refine n_seq ?_ | refine n_block ?_ | refine n_skip ?_ | refine n_exit ?_ | refine n_ret ?_ | refine s_then ?_ | refine s_then_ret ?_ | refine s_then_exit ?_ | refine s_blk _ ?_ | refine s_blk_ret ?_ | refine s_blk_hit ?_ | refine s_blk_miss rfl ?_))
      exact h) : Next C N G H nx K := hk h
end Go.RT
/- Objects told anew: a flat one as0 one of abstract values; a nil slice in a cell as0 an owned empty one. -/
namespace Go.RT
open Go
set_option linter.all false
variable {C : Cx} {N : Nat} {G : Env} {H : Hp} {nx : Nat} {K : Act → World → Prop}
theorem Mem.retell {S : Nat → Prop} {m : Ids} {w : World} (hm : Mem C H nx S m w) {id : Nat} {o o' : Ob} (hid : hlook H id = some o) (ho : ORep w S m id o → ORep w S m id o') (hown : ∀ (sz : Nat) (rows : List (List PV)) (i j : Nat) (r : List PV) (isz : Nat) (irows : List (List FV)), o' = .refs sz rows → rows[i]? = some r → r[j]? = some (.own isz irows) → ∃ rows0 r0, o = .refs sz rows0 ∧ rows0[i]? = some r0 ∧ r0[j]? = some (.own isz irows)) : Mem C ((id, some o') :: H) nx S m w := by
  have ex : ∀ id' o2, hlook ((id, some o') :: H) id' = some o2 → ∃ o3, hlook H id' = some o3 := fun id' o2 ho2 => by
    rw [hlook_cons] at ho2
    by_cases hi : id = id'
    · subst hi; exact ⟨_, hid⟩
    · rw [if_neg hi] at ho2; exact ⟨_, ho2⟩
  refine hm.step (Le.refl _ _ _) ⟨rfl, Nat.le_refl _⟩ rfl rfl (fun _ _ => rfl) (Nat.le_refl _) (fun _ _ _ => rfl) (fun _ h => .inl h) (fun i o2 h => ?_) (fun i o2 b h => ?_) (fun i1 i2 o1 o2 b h1 h2 => ?_) hm.stab hm.fresh ?_
  · rw [hlook_cons] at h
    by_cases hi : id = i
    · rw [if_pos hi] at h; cases h; subst hi; exact ho (hm.objs _ _ hid)
    · rw [if_neg hi] at h; exact hm.objs _ _ h
  · obtain ⟨o3, h3⟩ := ex i o2 h; exact hm.blk i o3 b h3
  · obtain ⟨o3, h3⟩ := ex _ _ h1
    obtain ⟨o4, h4⟩ := ex _ _ h2
    exact hm.inj i1 i2 o3 o4 b h3 h4
  · refine hm.nkeep (Le.refl _ _ _) (Nat.le_refl _) (fun id' sz i j isz irows ⟨rows, r, h1, h2, h3⟩ => ?_) (fun _ _ _ _ _ _ _ c e _ _ _ k2 k3 => ⟨c, e, k2, k3⟩) (fun b' _ h2 h3 => ⟨rfl, h2, fun id2 o2 h => ?_⟩)
    · rw [hlook_cons] at h1
      by_cases hi : id = id'
      · rw [if_pos hi] at h1
        obtain ⟨rows0, r0, q1, q2, q3⟩ := hown sz rows i j r isz irows (Option.some.inj h1) h2 h3
        subst hi; subst q1; exact ⟨_, _, hid, q2, q3⟩
      · rw [if_neg hi] at h1; exact ⟨_, _, h1, h2, h3⟩
    · obtain ⟨o3, h4⟩ := ex _ _ h; exact h3 _ _ h4
theorem no_own {o o' : Ob} (hp : o'.plain) : ∀ (sz : Nat) (rows : List (List PV)) (i j : Nat) (r : List PV) (isz : Nat) (irows : List (List FV)), o' = .refs sz rows → rows[i]? = some r → r[j]? = some (.own isz irows) → ∃ rows0 r0, o = .refs sz rows0 ∧ rows0[i]? = some r0 ∧ r0[j]? = some (.own isz irows) := fun sz rows i j r isz irows h1 h2 h3 => by
  subst h1; exact (hp r (List.mem_of_getElem? h2) _ (List.mem_of_getElem? h3) _ _ rfl).elim
theorem plain_map {sz : Nat} {rows : List (List FV)} : (Ob.refs sz (rows.map fun r => r.map PV.fz)).plain := by
  intro r hr p hp a b e
  obtain ⟨r0, _, rfl⟩ := List.mem_map.1 hr
  obtain ⟨f, _, rfl⟩ := List.mem_map.1 hp
  cases e
theorem own_setCell {sz row col : Nat} {rows : List (List PV)} {r : List PV} {q : PV} (hq : ∀ a b, q ≠ .own a b) (hrow : rows[row]? = some r) : ∀ (sz1 : Nat) (rows1 : List (List PV)) (i j : Nat) (r1 : List PV) (isz : Nat) (irows : List (List FV)), Ob.refs sz (rows.set row (r.set col q)) = .refs sz1 rows1 → rows1[i]? = some r1 → r1[j]? = some (.own isz irows) → ∃ rows0 r0, Ob.refs sz rows = .refs sz1 rows0 ∧ rows0[i]? = some r0 ∧ r0[j]? = some (.own isz irows) := by
  intro sz1 rows1 i j r1 isz irows h1 h2 h3
  cases h1
  rw [List.getElem?_set] at h2
  by_cases hi : row = i
  · subst hi
    rw [if_pos rfl, if_pos (List.getElem?_eq_some_iff.1 hrow).1] at h2
    cases h2
    rw [List.getElem?_set] at h3
    by_cases hj : col = j
    · subst hj
      rw [if_pos rfl] at h3
      split at h3
      · cases h3; exact (hq _ _ rfl).elim
      · cases h3
    · rw [if_neg hj] at h3; exact ⟨rows, r, rfl, hrow, h3⟩
  · rw [if_neg hi] at h2; exact ⟨rows, r1, rfl, h2, h3⟩
theorem rows_toRefs {w : World} {S : Nat → Prop} {m : Ids} {c : Array Value} {sz : Nat} {rows : List (List FV)} (h : RowsRep (FRep w S) c sz rows) : RowsRep (Rep w S m) c sz (rows.map fun r => r.map PV.fz) := by
  refine ⟨by simpa using h.1, fun r hr => ?_, fun i j r p hi hj => ?_⟩
  · obtain ⟨r0, h0, rfl⟩ := List.mem_map.1 hr
    simpa using h.2.1 r0 h0
  · rw [List.getElem?_map] at hi
    obtain ⟨r0, h0, rfl⟩ := Option.map_eq_some_iff.1 hi
    rw [List.getElem?_map] at hj
    obtain ⟨f, hf, rfl⟩ := Option.map_eq_some_iff.1 hj
    obtain ⟨u, h1, h2, h3⟩ := h.2.2 i j r0 f h0 hf
    exact ⟨u, h1, h2, .fz _ _ h3⟩
theorem ORep.toRefs {w : World} {S : Nat → Prop} {m : Ids} {id sz : Nat} {rows : List (List FV)} (h : ORep w S m id (.flat sz rows)) : ORep w S m id (.refs sz (rows.map fun r => r.map PV.fz)) := by
  rcases h with ⟨h1, rfl⟩ | ⟨b, c, e, h1, h2, h3⟩
  · exact .inl ⟨h1, rfl⟩
  · exact .inr ⟨b, c, e, h1, h2, rows_toRefs h3⟩
/-- a flat object told as0 one of abstract values -/
theorem Next.toRefs (id : Nat) {sz : Nat} {rows : List (List FV)} {rows' : List (List PV)} (hl : hlook H id = some (.flat sz rows)) (hr : (rows.map fun r => r.map PV.fz) = rows') (h : Next C N G ((id, some (.refs sz rows')) :: H) nx K) : Next C N G H nx K := by
  subst hr
  intro a w hR
  obtain ⟨S, m, hm, hsl⟩ := hR.mem
  exact h a w ⟨hR.defers, hR.size, S, m, hm.retell hl ORep.toRefs (no_own plain_map), hsl⟩
/-- a nil slice in a cell of an owned object, taken as0 an owned empty one -/
theorem Next.adoptCell (id row col sz : Nat) {s : Nat} {rows rows' : List (List PV)} {r : List PV} (hl : hlook H id = some (.refs s rows)) (hrow : rows[row]? = some r) (hcol : r[col]? = some (.fz (.lit (.slice none 0 0)))) (hr : rows.set row (r.set col (.sl nx sz 0 0)) = rows')
    (h : Next C N G ((id, some (.refs s rows')) :: (nx, some (.flat sz [])) :: H) (nx + 1) K) : Next C N G H nx K := by
  subst hr
  intro a w hR
  obtain ⟨S, m, hm, hsl⟩ := hR.mem
  have hids : ∀ i y, m i = some y → i ≠ nx := fun i y hi => by have := hm.lt hi; omega
  have hle : Le S m w S (setM m nx none) w := ⟨fun _ h => h, fun _ _ => rfl, fun i y hi => by rw [setM_other (hids i y hi)]; exact hi, fun _ _ h => h⟩
  have ex : ∀ id' o' b, hlook ((nx, some (.flat sz [])) :: H) id' = some o' → setM m nx none id' = some (some b) → id' ≠ nx ∧ hlook H id' = some o' ∧ m id' = some (some b) := fun id' o' b h hb => by
    rw [hlook_cons] at h
    by_cases h1 : nx = id'
    · subst h1; rw [setM_self] at hb; cases hb
    · rw [if_neg h1] at h; rw [setM_other (fun e => h1 e.symm)] at hb; exact ⟨fun e => h1 e.symm, h, hb⟩
  have hidne : id ≠ nx := by obtain ⟨x, hx⟩ := (hm.objs id _ hl).known; exact hids id x hx
  have m1 : Mem C ((nx, some (.flat sz [])) :: H) (nx + 1) S (setM m nx none) w := by
    refine hm.step hle ⟨rfl, Nat.le_refl _⟩ rfl rfl (fun _ _ => rfl) (Nat.le_refl _) (fun _ _ _ => rfl) (fun _ h => .inl h) (fun id o ho => ?_) (fun id o b ho hb => ?_) (fun i1 i2 o1 o2 b h1 h2 h3 h4 => ?_) hm.stab (fun i hi => ?_) (hm.nkeep_new hle)
    · rw [hlook_cons] at ho
      by_cases h1 : nx = id
      · rw [if_pos h1] at ho; cases ho; subst h1; exact .inl ⟨setM_self _ _ _, rfl⟩
      · rw [if_neg h1] at ho; exact (hm.objs id o ho).mono hle (fun _ _ => rfl)
    · obtain ⟨_, k1, k2⟩ := ex id o b ho hb; exact hm.blk id o b k1 k2
    · obtain ⟨_, k1, k2⟩ := ex i1 o1 b h1 h3
      obtain ⟨_, k3, k4⟩ := ex i2 o2 b h2 h4
      exact hm.inj i1 i2 o1 o2 b k1 k3 k2 k4
    · rw [setM_other (by omega)]; exact hm.fresh i (by omega)
  have m2 := m1.retell (id := id) (o := .refs s rows) (o' := .refs s (rows.set row (r.set col (.sl nx sz 0 0)))) (by rw [hlook_cons, if_neg (fun e => hidne e.symm)]; exact hl) (fun ho => by
    rcases ho with ⟨k1, k2⟩ | ⟨b, c, e, k1, k2, k3⟩
    · subst k2; simp at hrow
    · refine .inr ⟨b, c, e, k1, k2, by simpa using k3.1, fun r' hr' => ?_, fun i j r' p hi hj => ?_⟩
      · rcases List.mem_or_eq_of_mem_set hr' with h1 | rfl
        · exact k3.2.1 r' h1
        · simpa using k3.2.1 r (List.mem_of_getElem? hrow)
      · rw [List.getElem?_set] at hi
        by_cases h1 : row = i
        · subst h1
          have hlt : row < rows.length := (List.getElem?_eq_some_iff.1 hrow).1
          simp only [if_true, hlt] at hi
          cases hi
          rw [List.getElem?_set] at hj
          by_cases h2 : col = j
          · subst h2
            have hlt2 : col < r.length := (List.getElem?_eq_some_iff.1 hcol).1
            simp only [if_true, hlt2] at hj
            cases hj
            obtain ⟨u, hu, ho1, hp⟩ := k3.2.2 row col r _ hrow hcol
            refine ⟨u, hu, ho1, ?_⟩
            rw [hp.lit]; exact .sl0 _ _ (setM_self _ _ _)
          · rw [if_neg h2] at hj
            exact k3.2.2 row j r p hrow hj
        · rw [if_neg h1] at hi
          exact k3.2.2 i j r' p hi hj) (own_setCell (fun a b e => by cases e) hrow)
  exact h a w ⟨hR.defers, hR.size, S, _, m2, fun t q hq => (hsl t q hq).mono hle⟩
/-- objects that are lent as they are -/
def EntK (L : List Nat) (H : Hp) : Hp → Prop
  | [] => True
  | (_, none) :: r => EntK L H r
  | (id, some o) :: r => (Nat.blt id L.length = true ∧ ([] : List Nat).contains (renI L id) = false ∧ hlook H (renI L id) = some (renO L o) ∧ ltO L.length o) ∧ EntK L H r
theorem EntK.get {L : List Nat} {H : Hp} : ∀ {H' : Hp}, EntK L H H' → ∀ id o, hlook H' id = some o → id < L.length ∧ hlook H (renI L id) = some (renO L o) ∧ ltO L.length o
  | [], _, t, p', h => by cases h
  | (s, none) :: r, hE, t, p', h => by
    rw [hlook_cons] at h
    by_cases hs : s = t
    · rw [if_pos hs] at h; cases h
    · rw [if_neg hs] at h; exact EntK.get (H' := r) hE t p' h
  | (s, some q) :: r, hE, t, p', h => by
    rw [hlook_cons] at h
    by_cases hs : s = t
    · rw [if_pos hs] at h; cases h; subst hs; exact ⟨blt_of hE.1.1, hE.1.2.2⟩
    · rw [if_neg hs] at h; exact EntK.get hE.2 t p' h
theorem Lent.of {L : List Nat} {n : Nat} {H Hin : Hp} (hl : L.length = n) (hnd : nodupB L = true) (hE : EntK L H Hin) (ha : (List.range n).all (fun i => (hlook Hin i).isSome) = true) : Lent L n H Hin := by
  refine ⟨hl, hnd, fun i hi => ?_, fun i o ho => ?_⟩
  · have := List.all_eq_true.1 ha i (by simpa using hi)
    exact Option.isSome_iff_exists.1 this
  · obtain ⟨h1, h2, h3⟩ := hE.get i o ho
    subst hl
    exact ⟨h1, h2, h3⟩
end Go.RT
/- The end of a law: a truth value that is proved to be true. Data read off the arguments. -/
namespace Go.RT
open Go
set_option linter.all false
theorem s_oB {P : Program} {C : Cx} {N : Nat} {G : Env} {H : Hp} {nx : Nat} {fn : Func} {r : Tmp} {b : Bool} (hC : C.n0 = 0) (hres : fn.results = #[.tmp r]) (h : look G r = some (BV b)) (hb : b = true) : Next C N G H nx (Out P fn C (.fz (Bf true)) [] 0 .ret) := by
  subst hb; exact s_o1 hC hres (RV.tmp _ _ h)
/-- rows that read as0 a list of things -/
theorem rows_of {α : Type} {enc : α → List FV} {ok : α → Prop} {R : List FV → Prop} (h : ∀ fs, R fs → ∃ x, ok x ∧ fs = enc x) : ∀ {rows : List (List FV)}, (∀ r ∈ rows, R r) → ∃ l : List α, rows = l.map enc ∧ ∀ x ∈ l, ok x
  | [], _ => ⟨[], rfl, by simp⟩
  | r :: rs, hr => by
    obtain ⟨x, hx, rfl⟩ := h r (hr r (by simp))
    obtain ⟨l, rfl, hl⟩ := rows_of h (rows := rs) (fun r' h' => hr r' (List.mem_cons_of_mem _ h'))
    exact ⟨x :: l, by simp, fun y hy => by
      rcases List.mem_cons.1 hy with rfl | hy
      · exact hx
      · exact hl y hy⟩
end Go.RT
/- What an argument reads as0, restated. -/
namespace Go.RT
open Go
set_option linter.all false
theorem RdC.imp {H : Type} {ok : DataW H → Prop} {enc : TypeId × Value → H} {P : Program} {W : World} {t : TypeId} {R R' : List FV → Prop} (h : RdC ok enc P W t R) (hi : ∀ fs, R fs → R' fs) : RdC ok enc P W t R' := fun fuel cs x hx ho => by
  obtain ⟨fs, h1, h2, h3⟩ := h fuel cs x hx ho
  exact ⟨fs, hi fs h1, h2, h3⟩
end Go.RT
/- Tests against nil; owned slices resliced, cleared; boxes told as abstract values; calls that are lent frozen data and hand back a fresh slice. -/
namespace Go.RT
open Go
set_option linter.all false
section
variable {P : Program} {o : Oper} {g : Bool} {G : Env} {x y : Operand} {t t' : TypeId} {H : Hp} {nx : Nat}
theorem Mem.reheap2 {C : Cx} {H H' : Hp} {nx : Nat} {S : Nat → Prop} {m : Ids} {w : World} (k1 : Mem C H nx S m w) (hh : ∀ id, hlook H' id = hlook H id) : Mem C H' nx S m w :=
  k1.step (Le.refl _ _ _) ⟨rfl, Nat.le_refl _⟩ rfl rfl (fun _ _ => rfl) (Nat.le_refl _) (fun _ _ _ => rfl) (fun _ h => .inl h) (fun i o h => k1.objs i o (by rwa [hh] at h)) (fun i o b h => k1.blk i o b (by rwa [hh] at h)) (fun i j o o' b h1 h2 => k1.inj i j o o' b (by rwa [hh] at h1) (by rwa [hh] at h2)) k1.stab k1.fresh
    (k1.nkeep (Le.refl _ _ _) (Nat.le_refl _) (fun _ _ _ _ _ _ h => h.of fun o h => by rwa [hh] at h) (fun _ _ _ _ _ _ _ c e _ _ _ k2 k3 => ⟨c, e, k2, k3⟩) (fun b' _ h2 h3 => ⟨rfl, h2, fun id2 o2 h => h3 _ _ (by rwa [hh] at h)⟩))
/-- 's == nil' is true only of an empty one -/
theorem op_eqnil {sz : Nat} {rows : List (List FV)} {e : TypeId} [hd : TyD P t (.slice e)] (ho : o.op = .binOp .eql t x (.const (.slice none 0 0)) t') (hx : Opd G g x (.fz (.vals sz rows))) : OpP P o g G (.ab rows.isEmpty) :=
  .of fun S m a w hg ha => by
    have h1 := (hx.rep hg (by simp [ho, Op.operands]) ha).frz
    generalize hv : a.eval x = v at h1
    have key : ∀ (ad : Option Addr) (l c : Nat), v = .slice ad l c → (ad.isNone = true → rows.isEmpty = true) → ∃ v', (execOp a.eval o).run P w = .ok (.value v') w ∧ Rep w S m v' (.ab rows.isEmpty) := fun ad l c hvv hc => by
      subst hvv
      refine ⟨.bool ad.isNone, ?_, .ab _ _ hc⟩
      have := run_equal_slice_nil (P := P) w t e ad l c hd.h
      have hk : a.eval (.const (.slice none 0 0)) = .slice none 0 0 := rfl
      have h0 : (eqGuard .eql t x (.const (.slice none 0 0)) (.slice ad l c) (.slice none 0 0)).run P w = .ok () w := rfl
      have h2 : (binOp .eql t (.slice ad l c) (.slice none 0 0)).run P w = .ok (.bool ad.isNone) w := by
        simp only [binOp, Sem.run_bind, this, Result.andThen_ok, Sem.run_pure]
      simp only [execOp, ho, hv, hk, Sem.run_bind, h0, h2, Result.andThen_ok, Sem.run_pure]
    cases h1 with
    | nil ad cap _ => exact key _ _ _ rfl (fun _ => rfl)
    | vals b off cap _ _ _ _ => exact key _ _ _ rfl (fun h => by cases h)
theorem Next.abool {C : Cx} {N : Nat} {K : Act → World → Prop} (tt : Nat) {c : Bool} (hl : look G tt = some (.ab c)) (h : ∀ b : Bool, (b = true → c = true) → Next C N ((tt, BV b) :: G) H nx K) : Next C N G H nx K := by
  intro a w hR
  obtain ⟨S, m, hm, hsl⟩ := hR.mem
  obtain ⟨v, hv, hr⟩ := hsl tt _ hl
  cases hr with
  | ab b _ hb =>
    refine h b hb a w ⟨hR.defers, hR.size, S, m, hm, fun t q hq => ?_⟩
    rw [look_cons] at hq
    by_cases ht : tt = t
    · rw [if_pos ht] at hq; cases hq; subst ht; exact ⟨_, hv, .fz _ _ (.lit _)⟩
    · rw [if_neg ht] at hq; exact hsl t q hq
/-- 's[l:h]' of an owned slice: another view of the same object -/
theorem op_slice_view {e : TypeId} {sz by_ id lo len l h : Nat} {z : Value} {rows : List (List FV)} {ol oh : Option Operand} [hd : TyD P t (.slice e)] [hn : TyN P e sz by_ z] (ho : o.op = .slice t x ol oh none) (hx : Opd G g x (.sl id sz lo len)) (hlo : Bnd G g ol 0 l) (hhi : Bnd G g oh len h)
    (hh : g = true → hlook H id = some (.flat sz rows) ∧ (l = 0 ∨ lo + l < rows.length) ∧ l ≤ h ∧ lo + h ≤ rows.length ∧ 0 < sz) : OpL P o g G H [id] (.sl id sz (lo + l) (h - l)) := fun H' nx' hag =>
  .of fun C S m a w hm hg ha => by
    have h1 := hx.rep hg (by simp [ho, Op.operands]) ha
    obtain ⟨hl0, q1, q2, q3, q4⟩ := hh hg
    have hl : hlook H' id = some (.flat sz rows) := (hag id (by simp)).trans hl0
    have b1 := hlo.val (o := o) (a := a) (w := w) (S := S) (m := m) hg (fun x hx => by simp [ho, Op.operands, hx]) ha
    have b2 := hhi.val (o := o) (a := a) (w := w) (S := S) (m := m) hg (fun x hx => by simp [ho, Op.operands, hx]) ha
    generalize hv : a.eval x = v at h1
    cases h1 with
    | sl0 _ _ hid =>
      rcases hm.objs id _ hl with ⟨_, hr0⟩ | ⟨b', _, _, h2, _⟩
      · subst hr0
        simp at q1 q3
        subst q1; subst q3
        have := run_slice (P := P) (t := t) (w := w) (a := none) (len := 0) (cap := 0) b1 b2 (Nat.le_refl _) (Nat.le_refl _)
        exact ⟨.slice none 0 0, by simp [execOp, ho, hv, this], .sl0 _ _ hid⟩
      · rw [hid] at h2; cases h2
    | sl _ _ _ _ b cap hid hr hc hmx =>
      rcases hm.objs id _ hl with ⟨h2, _⟩ | ⟨b', c, e', h2, hcb, h3, h4, h5⟩
      · rw [hid] at h2; cases h2
      · rw [hid] at h2; cases h2
        obtain ⟨c2, e2, fr, hc2, hsz⟩ := hr
        rw [hcb] at hc2; cases hc2
        have hcap : rows.length ≤ lo + cap := by
          rw [hsz] at h3
          exact Nat.le_of_mul_le_mul_right h3 q4
        have hlc : l = 0 ∨ l < cap := by omega
        have := run_slice (P := P) (t := t) (w := w) (a := some ⟨b, lo * sz, none⟩) (len := len) (cap := cap) b1 b2 q2 (by omega)
        have e0 : (if cap = l then some (⟨b, lo * sz, none⟩ : Addr) else (some (⟨b, lo * sz, none⟩ : Addr)).map (·.add (l * sz))) = some ⟨b, (lo + l) * sz, none⟩ := by
          by_cases hl0 : l = 0
          · subst hl0; split <;> simp [Addr.add]
          · rw [if_neg (by omega)]; simp only [Option.map_some, add_none, Nat.add_mul]
        refine ⟨.slice (some ⟨b, (lo + l) * sz, none⟩) (h - l) (cap - l), ?_, .sl id sz (lo + l) (h - l) b (cap - l) hid ⟨c, _, _, hcb, ?_⟩ (by omega) (by omega)⟩
        · simp only [execOp, ho, hv, Option.map_none, Sem.run_bind, this, e0, Result.andThen_ok, Sem.run_pure]
        · rw [hsz]; congr 1; omega
theorem RowsRep.fill {α : Type} {R : Value → α → Prop} {c : Array Value} {sz : Nat} {rows : List (List α)} (h : RowsRep R c sz rows) {lo len : Nat} {zs : List α} {vs : List Value} (hlo : lo + len ≤ rows.length) (hzl : zs.length = sz)
    (hvl : vs.length = len * sz) (hv : ∀ i j p, i < len → zs[j]? = some p → ∃ u, vs[i * sz + j]? = some u ∧ u.oneCell' = true ∧ R u p) :
    RowsRep R (c.toList.take (lo * sz) ++ vs ++ c.toList.drop (lo * sz + vs.length)).toArray sz (rows.take lo ++ List.replicate len zs ++ rows.drop (lo + len)) := by
  obtain ⟨h1, h2, h3⟩ := h
  have hb : (lo + len) * sz ≤ c.size := Nat.le_trans (Nat.mul_le_mul_right _ hlo) h1
  have hsz : (c.toList.take (lo * sz) ++ vs ++ c.toList.drop (lo * sz + vs.length)).length = c.size := by
    simp only [List.length_append, List.length_take, Array.length_toList, List.length_drop, hvl]
    rw [Nat.add_mul] at hb; omega
  have hrl : (rows.take lo ++ List.replicate len zs ++ rows.drop (lo + len)).length = rows.length := by simp; omega
  refine ⟨by rw [List.size_toArray, hsz, hrl]; exact h1, fun r hr => ?_, fun i j r p hi hj => ?_⟩
  · rcases List.mem_append.1 hr with hr | hr
    · rcases List.mem_append.1 hr with hr | hr
      · exact h2 r (List.mem_of_mem_take hr)
      · rw [List.eq_of_mem_replicate hr]; exact hzl
    · exact h2 r (List.mem_of_mem_drop hr)
  · have hget : ∀ q, (c.toList.take (lo * sz) ++ vs ++ c.toList.drop (lo * sz + vs.length)).toArray[q]? = if q < lo * sz then c[q]? else if q < lo * sz + vs.length then vs[q - lo * sz]? else c[q]? := fun q => by
      have hle : lo * sz ≤ c.size := by rw [Nat.add_mul] at hb; omega
      rw [List.getElem?_toArray, List.append_assoc, List.getElem?_append]
      simp only [List.length_take, Array.length_toList, Nat.min_eq_left hle]
      by_cases hq : q < lo * sz
      · rw [if_pos hq, if_pos hq, List.getElem?_take, if_pos hq, Array.getElem?_toList]
      · rw [if_neg hq, if_neg hq, List.getElem?_append]
        by_cases hq2 : q < lo * sz + vs.length
        · rw [if_pos (by omega), if_pos hq2]
        · rw [if_neg (by omega), if_neg hq2, List.getElem?_drop, Array.getElem?_toList]; congr 1; omega
    rw [hget]
    have hil : i < rows.length := by rw [← hrl]; exact (List.getElem?_eq_some_iff.1 hi).1
    have hrsz : ∀ r, rows[i]? = some r → r.length = sz := fun r hr => h2 r (List.mem_of_getElem? hr)
    rw [List.append_assoc, List.getElem?_append] at hi
    simp only [List.length_take, Nat.min_eq_left (show lo ≤ rows.length by omega)] at hi
    by_cases c1 : i < lo
    · rw [if_pos c1, List.getElem?_take, if_pos c1] at hi
      have hjs : j < sz := by rw [← hrsz r hi]; exact (List.getElem?_eq_some_iff.1 hj).1
      have : i * sz + j < lo * sz := by
        have := Nat.mul_le_mul_right sz (show i + 1 ≤ lo by omega)
        rw [Nat.add_mul] at this; omega
      rw [if_pos this]; exact h3 i j r p hi hj
    · rw [if_neg c1, List.getElem?_append] at hi
      simp only [List.length_replicate] at hi
      by_cases c2 : i - lo < len
      · rw [if_pos c2, List.getElem?_replicate, if_pos c2] at hi
        cases hi
        have hjs : j < sz := by rw [← hzl]; exact (List.getElem?_eq_some_iff.1 hj).1
        have e1 : i * sz + j = lo * sz + ((i - lo) * sz + j) := by
          have : i = lo + (i - lo) := by omega
          rw [this, Nat.add_mul]; simp; omega
        have e2 : (i - lo) * sz + j < len * sz := by
          have := Nat.mul_le_mul_right sz (show i - lo + 1 ≤ len by omega)
          rw [Nat.add_mul] at this; omega
        rw [if_neg (by omega), if_pos (by omega), e1, Nat.add_sub_cancel_left]
        exact hv (i - lo) j p c2 hj
      · rw [if_neg c2, List.getElem?_drop] at hi
        rw [show lo + len + (i - lo - len) = i by omega] at hi
        have : lo * sz + vs.length ≤ i * sz + j := by
          have := Nat.mul_le_mul_right sz (show lo + len ≤ i by omega)
          rw [Nat.add_mul] at this; omega
        rw [if_neg (by rw [hvl] at this; omega), if_neg (by omega)]
        exact h3 i j r p hi hj
theorem zeroCells_get {cs : Array Value} {n : Nat} : (Builtin.zeroCells cs n).toList.length = n * cs.size ∧ ∀ i j, i < n → j < cs.size → (Builtin.zeroCells cs n).toList[i * cs.size + j]? = cs[j]? := by
  refine ⟨by simp [Builtin.zeroCells], fun i j hi hj => ?_⟩
  have hq : i * cs.size + j < n * cs.size := by
    have := Nat.mul_le_mul_right cs.size (show i + 1 ≤ n by omega)
    rw [Nat.add_mul] at this; omega
  have hm : (i * cs.size + j) % cs.size = j := by rw [Nat.mul_comm, Nat.mul_add_mod, Nat.mod_eq_of_lt hj]
  simp [Builtin.zeroCells, hq, hm, hj]
/-- 'clear(s)' of an owned slice -/
theorem op_clear {e : TypeId} {sz by_ id lo len : Nat} {z : Value} {zs : List FV} {rows : List (List FV)} [hd : TyD P t (.slice e)] [hn : TyN P e sz by_ z] (ho : o.op = .call { callee := .builtin .clear, args := #[x], argTypes := #[t] }) (hx : Opd G g x (.sl id sz lo len))
    (hz : zeroFs z = zs) (hzl : Nat.beq zs.length sz = true) (h1 : z.cells.toList.all (·.oneCell') = true) (hl : hlook H id = some (.flat sz rows)) (hlen : lo + len ≤ rows.length) :
    OpS P o g G H nx (.fz (.tup [])) ((id, some (.flat sz (rows.take lo ++ List.replicate len zs ++ rows.drop (lo + len)))) :: H) nx :=
  ⟨fun C S m a w hm hg ha K Q hK => by
    have hxr := hx.rep hg (by simp [ho, Op.operands, Call.operands]) ha
    have hzl := Nat.eq_of_beq_eq_true hzl
    subst hz
    have hzc : z.cells.size = sz := by rw [← hzl]; simp [zeroFs]
    have hzv : ∀ (w : World) (j : Nat) (p : FV), (zeroFs z)[j]? = some p → ∃ u, z.cells[j]? = some u ∧ u.oneCell' = true ∧ FRep w S u p := fun w j p hp => by
      simp only [zeroFs, List.getElem?_map, Array.getElem?_toList] at hp
      obtain ⟨u, hu, rfl⟩ := Option.map_eq_some_iff.1 hp
      exact ⟨u, hu, List.all_eq_true.1 h1 u (Array.mem_toList_iff.2 (Array.mem_of_getElem? hu)), .lit _⟩
    have tup : ∀ (w : World) (m : Ids), Rep w S m (.tuple #[]) (.fz (.tup [])) := fun w m => .fz _ _ (.tup _ _ rfl (fun i c f h => by simp at h))
    generalize hv : a.eval x = v at hxr
    have same : (rows.take lo ++ List.replicate 0 (zeroFs z) ++ rows.drop (lo + 0)) = rows := by simp
    cases hxr with
    | sl0 _ _ hid =>
      rw [same] at hK
      have hm2 : Mem C ((id, some (.flat sz rows)) :: H) nx S m w := by
        have hlk : ∀ i, hlook ((id, some (.flat sz rows)) :: H) i = hlook H i := fun i => by
          rw [hlook_cons]; by_cases h : id = i
          · subst h; rw [if_pos rfl, hl]
          · rw [if_neg h]
        exact hm.reheap2 hlk
      refine wp_value (w' := w) (v := .tuple #[]) ?_ (hK _ _ S m hm2 (Le.refl _ _ _) (tup w m))
      simp [execOp, ho, hv, resolve, invoke, builtin, Builtin.clear_, run_underlying hd.h]
    | sl _ _ _ _ b cap hid hr hc hmx =>
      rcases hm.objs id _ hl with ⟨h2, _⟩ | ⟨b', c, e', h2, hcb, hR⟩
      · rw [hid] at h2; cases h2
      · rw [hid] at h2; cases h2
        obtain ⟨zc1, zc2⟩ := zeroCells_get (cs := z.cells) (n := len)
        rw [hzc] at zc1 zc2
        have hone : ∀ v ∈ (Builtin.zeroCells z.cells len).toList, v.oneCell' = true := fun v hv => by
          obtain ⟨q, hq, rfl⟩ := List.getElem_of_mem hv
          rw [zc1] at hq
          have hsz : 0 < sz := by
            rcases Nat.eq_zero_or_pos sz with h | h
            · subst h; simp at hq
            · exact h
          have hdm := Nat.div_add_mod q sz
          have hlt := Nat.mod_lt q hsz
          have hql : q / sz < len := (Nat.div_lt_iff_lt_mul hsz).2 hq
          have := zc2 (q / sz) (q % sz) hql hlt
          rw [show q / sz * sz + q % sz = q by rw [Nat.mul_comm]; exact hdm] at this
          rw [List.getElem?_eq_getElem (by rw [zc1]; exact hq)] at this
          have hz2 : q % sz < z.cells.size := by omega
          rw [Array.getElem?_eq_getElem hz2] at this
          rw [Option.some.inj this]
          exact List.all_eq_true.1 h1 z.cells[q % sz] (Array.mem_toList_iff.2 (Array.getElem_mem hz2))
        have hfill := hR.fill (lo := lo) (len := len) (zs := zeroFs z) (vs := (Builtin.zeroCells z.cells len).toList) hlen hzl zc1 (fun i j p hi hj => by
          obtain ⟨u, hu, h3, h4⟩ := hzv w j p hj
          have hj2 : j < sz := by rw [← hzl]; exact (List.getElem?_eq_some_iff.1 hj).1
          exact ⟨u, by rw [zc2 i j hi hj2]; exact hu, h3, h4⟩)
        have hb : lo * sz + len * sz ≤ c.size := by
          have := Nat.le_trans (Nat.mul_le_mul_right sz hlen) hR.1
          rw [Nat.add_mul] at this; exact this
        have hst := run_storeCells_at (P := P) b (lo * sz) e' (Builtin.zeroCells z.cells len).toList 0 c w hcb (by rw [zc1]; omega) hone
        rw [Nat.add_zero] at hst
        have hsz2 : (c.toList.take (lo * sz) ++ (Builtin.zeroCells z.cells len).toList ++ c.toList.drop (lo * sz + (Builtin.zeroCells z.cells len).toList.length)).toArray.size = c.size := by
          simp only [List.size_toArray, List.length_append, List.length_take, Array.length_toList, List.length_drop, zc1]
          omega
        obtain ⟨hm', hle⟩ := hm.write hl hid hcb hsz2 (o' := .flat sz (rows.take lo ++ List.replicate len (zeroFs z) ++ rows.drop (lo + len))) (plain_hown (by exact trivial)) (fun w' hle hnew => .inr ⟨b, _, e', hid, hnew, hfill.mono fun v p h => h.mono hle.st hle.same⟩)
        cases len with
        | zero =>
          rw [same] at hK
          have hm2 : Mem C ((id, some (.flat sz rows)) :: H) nx S m w := by
            have hlk : ∀ i, hlook ((id, some (.flat sz rows)) :: H) i = hlook H i := fun i => by
              rw [hlook_cons]; by_cases h : id = i
              · subst h; rw [if_pos rfl, hl]
              · rw [if_neg h]
            exact hm.reheap2 hlk
          refine wp_value (w' := w) (v := .tuple #[]) ?_ (hK _ _ S m hm2 (Le.refl _ _ _) (tup w m))
          simp [execOp, ho, hv, resolve, invoke, builtin, Builtin.clear_, run_underlying hd.h]
        | succ len =>
          refine wp_value (v := .tuple #[]) ?_ (hK _ _ S m hm' hle (tup _ m))
          have hz0 := run_zero (P := P) hn w
          simp [execOp, ho, hv, resolve, invoke, builtin, Builtin.clear_, run_underlying hd.h, hz0, hst]⟩
/-- a variable whose cells may hold abstract values -/
theorem op_allocP {n by_ : Nat} {z : Value} {cs : List FV} {ps : List PV} [hn : TyN P t n by_ z] (ho : o.op = .alloc t) (hz : zeroFs z = cs) (hl : Nat.beq cs.length n = true) (h1 : z.cells.toList.all (·.oneCell') = true) (hp : cs.map PV.fz = ps) : OpS P o g G H nx (.ptr nx n 0 0) ((nx, some (.refs n [ps])) :: H) (nx + 1) :=
  ⟨fun C S m a w hm hg ha K Q hK => by
    refine (op_alloc (P := P) (o := o) (g := g) (G := G) (H := H) (nx := nx) (t := t) ho hz hl h1).runE C S m a w hm hg ha K Q fun v w' S' m' hm' hle hr => hK v w' S' m' ?_ hle hr
    have hid : hlook ((nx, some (.flat n [cs])) :: H) nx = some (.flat n [cs]) := by rw [hlook_cons, if_pos rfl]
    have h2 := hm'.retell (o' := .refs n [ps]) hid (fun h => by have := h.toRefs; simpa [hp] using this) (no_own (fun r hr p hq a b e => by rw [List.mem_singleton] at hr; subst hr; rw [← hp] at hq; obtain ⟨f, _, rfl⟩ := List.mem_map.1 hq; cases e))
    exact h2.reheap2 (fun id => by
      rw [hlook_cons, hlook_cons, hlook_cons]
      by_cases h : nx = id
      · rw [if_pos h, if_pos h]
      · rw [if_neg h, if_neg h, if_neg h])⟩
/-- a call of a frozen closure -/
theorem op_call_pureC {f : FuncId} {cf : Operand} {xs : List Operand} {ts : Array TypeId} {args caps : List FV} {res : FV} (hM : g = true → Pure P f (args ++ caps) res) [hb : FnB P f] (ho : o.op = .call { callee := .value cf, args := xs.toArray, argTypes := ts })
    (hf : Opd G g cf (.fz (.clo f caps))) (hx : Opds G g xs (args.map PV.fz)) : OpP P o g G (.fz res) := fun H nx =>
  op_call (L := []) (n := 0) (n' := 0) (Hin := []) (Hout := []) hM ho (Opd.clo _ _ _ hf) hx (by simp [renP, Function.comp_def]) (by simp [ltP]) (Lent.nil H) rfl rfl rfl rfl rfl
/-- a closure over frozen data -/
theorem op_makeFuncF {f : FuncId} {cs : List Operand} {fs : List FV} (ho : o.op = .makeFunc (.func f) #[] cs.toArray) (h2 : Opds G g cs (fs.map PV.fz)) : OpP P o g G (.fz (.clo f fs)) := fun H nx =>
  ⟨fun C S m a w hm hg ha K Q hK => by
    refine (op_makeFunc (P := P) (o := o) (g := g) (G := G) (f := f) (as0 := []) (ps := []) (by simpa using ho) .nil h2 H nx).runE C S m a w hm hg ha K Q fun v w' S' m' hm' hle hr => hK v w' S' m' hm' hle ?_
    cases hr with
    | clo _ as0 bs _ _ q1 q2 q3 q4 =>
      have e : as0 = #[] := by simpa using q1
      subst e
      refine .fz _ _ (.clo f bs fs (by simpa using q2) fun i c p hc hp => ?_)
      exact (q4 i c (.fz p) hc (by simp [hp])).frz⟩
end
end Go.RT
/- Owned slices written by many cells at once: append into the room that is there, copy. -/
namespace Go.RT
open Go
set_option linter.all false
section
variable {P : Program} {o : Oper} {g : Bool} {G : Env} {x y : Operand} {t t' : TypeId} {H : Hp} {nx : Nat}
theorem RowsRep.splice {α : Type} {R : Value → α → Prop} {c : Array Value} {sz : Nat} {rows rs : List (List α)} (h : RowsRep R c sz rows) {lo : Nat} {vs : List Value} (hlo : lo + rs.length ≤ rows.length) (hrs : ∀ r ∈ rs, r.length = sz)
    (hvl : vs.length = rs.length * sz) (hv : ∀ i j r p, rs[i]? = some r → r[j]? = some p → ∃ u, vs[i * sz + j]? = some u ∧ u.oneCell' = true ∧ R u p) :
    RowsRep R (c.toList.take (lo * sz) ++ vs ++ c.toList.drop (lo * sz + vs.length)).toArray sz (rows.take lo ++ rs ++ rows.drop (lo + rs.length)) := by
  obtain ⟨h1, h2, h3⟩ := h
  have hb : (lo + rs.length) * sz ≤ c.size := Nat.le_trans (Nat.mul_le_mul_right _ hlo) h1
  have hsz : (c.toList.take (lo * sz) ++ vs ++ c.toList.drop (lo * sz + vs.length)).length = c.size := by
    simp only [List.length_append, List.length_take, Array.length_toList, List.length_drop, hvl]
    rw [Nat.add_mul] at hb; omega
  have hrl : (rows.take lo ++ rs ++ rows.drop (lo + rs.length)).length = rows.length := by simp; omega
  refine ⟨by rw [List.size_toArray, hsz, hrl]; exact h1, fun r hr => ?_, fun i j r p hi hj => ?_⟩
  · rcases List.mem_append.1 hr with hr | hr
    · rcases List.mem_append.1 hr with hr | hr
      · exact h2 r (List.mem_of_mem_take hr)
      · exact hrs r hr
    · exact h2 r (List.mem_of_mem_drop hr)
  · have hget : ∀ q, (c.toList.take (lo * sz) ++ vs ++ c.toList.drop (lo * sz + vs.length)).toArray[q]? = if q < lo * sz then c[q]? else if q < lo * sz + vs.length then vs[q - lo * sz]? else c[q]? := fun q => by
      have hle : lo * sz ≤ c.size := by rw [Nat.add_mul] at hb; omega
      rw [List.getElem?_toArray, List.append_assoc, List.getElem?_append]
      simp only [List.length_take, Array.length_toList, Nat.min_eq_left hle]
      by_cases hq : q < lo * sz
      · rw [if_pos hq, if_pos hq, List.getElem?_take, if_pos hq, Array.getElem?_toList]
      · rw [if_neg hq, if_neg hq, List.getElem?_append]
        by_cases hq2 : q < lo * sz + vs.length
        · rw [if_pos (by omega), if_pos hq2]
        · rw [if_neg (by omega), if_neg hq2, List.getElem?_drop, Array.getElem?_toList]; congr 1; omega
    rw [hget]
    have hil : i < rows.length := by rw [← hrl]; exact (List.getElem?_eq_some_iff.1 hi).1
    have hrsz : ∀ r, rows[i]? = some r → r.length = sz := fun r hr => h2 r (List.mem_of_getElem? hr)
    rw [List.append_assoc, List.getElem?_append] at hi
    simp only [List.length_take, Nat.min_eq_left (show lo ≤ rows.length by omega)] at hi
    by_cases c1 : i < lo
    · rw [if_pos c1, List.getElem?_take, if_pos c1] at hi
      have hjs : j < sz := by rw [← hrsz r hi]; exact (List.getElem?_eq_some_iff.1 hj).1
      have : i * sz + j < lo * sz := by
        have := Nat.mul_le_mul_right sz (show i + 1 ≤ lo by omega)
        rw [Nat.add_mul] at this; omega
      rw [if_pos this]; exact h3 i j r p hi hj
    · rw [if_neg c1, List.getElem?_append] at hi
      by_cases c2 : i - lo < rs.length
      · rw [if_pos c2] at hi
        have hjs : j < sz := by rw [← hrs r (List.mem_of_getElem? hi)]; exact (List.getElem?_eq_some_iff.1 hj).1
        have e1 : i * sz + j = lo * sz + ((i - lo) * sz + j) := by
          have : i = lo + (i - lo) := by omega
          rw [this, Nat.add_mul]; simp; omega
        have e2 : (i - lo) * sz + j < rs.length * sz := by
          have := Nat.mul_le_mul_right sz (show i - lo + 1 ≤ rs.length by omega)
          rw [Nat.add_mul] at this; omega
        rw [if_neg (by omega), if_pos (by omega), e1, Nat.add_sub_cancel_left]
        exact hv (i - lo) j r p hi hj
      · rw [if_neg c2, List.getElem?_drop] at hi
        rw [show lo + rs.length + (i - lo - rs.length) = i by omega] at hi
        have : lo * sz + vs.length ≤ i * sz + j := by
          have := Nat.mul_le_mul_right sz (show lo + rs.length ≤ i by omega)
          rw [Nat.add_mul] at this; omega
        rw [if_neg (by rw [hvl] at this; omega), if_neg (by omega)]
        exact h3 i j r p hi hj
theorem Mem.again {C : Cx} {S : Nat → Prop} {m : Ids} {w : World} (hm : Mem C H nx S m w) {id : Nat} {ob : Ob} (hl : hlook H id = some ob) : Mem C ((id, some ob) :: H) nx S m w :=
  hm.reheap2 fun i => by
    rw [hlook_cons]; by_cases h : id = i
    · subst h; rw [if_pos rfl, hl]
    · rw [if_neg h]
/-- an owned slice resliced to nothing -/
theorem op_slice_end {e : TypeId} {sz by_ id lo len l h : Nat} {z : Value} {rows : List (List FV)} {ol oh : Option Operand} [hd : TyD P t (.slice e)] [hn : TyN P e sz by_ z] (ho : o.op = .slice t x ol oh none) (hx : Opd G g x (.sl id sz lo len)) (hlo : Bnd G g ol 0 l) (hhi : Bnd G g oh len h)
    (hh : g = true → hlook H id = some (.flat sz rows) ∧ l = h ∧ lo + h ≤ rows.length ∧ 0 < sz) : OpL P o g G H [id] (.fz (.vals sz [])) := fun H' nx' hag =>
  .of fun C S m a w hm hg ha => by
    have h1 := hx.rep hg (by simp [ho, Op.operands]) ha
    obtain ⟨hl0, q2, q3, q4⟩ := hh hg
    subst q2
    have hl : hlook H' id = some (.flat sz rows) := (hag id (by simp)).trans hl0
    have b1 := hlo.val (o := o) (a := a) (w := w) (S := S) (m := m) hg (fun x hx => by simp [ho, Op.operands, hx]) ha
    have b2 := hhi.val (o := o) (a := a) (w := w) (S := S) (m := m) hg (fun x hx => by simp [ho, Op.operands, hx]) ha
    generalize hv : a.eval x = v at h1
    have go : ∀ (ad : Option Addr) (cap : Nat), v = .slice ad len cap → l ≤ cap → ∃ v', (execOp a.eval o).run P w = .ok (.value v') w ∧ Rep w S m v' (.fz (.vals sz [])) := fun ad cap hvv hmc => by
      subst hvv
      have := run_slice (P := P) (t := t) (w := w) (a := ad) (len := len) (cap := cap) b1 b2 (Nat.le_refl _) hmc
      rw [Nat.sub_self] at this
      exact ⟨.slice (if cap = l then ad else ad.map (·.add (l * sz))) 0 (cap - l), by simp only [execOp, ho, hv, Option.map_none, Sem.run_bind, this, Result.andThen_ok, Sem.run_pure], .fz _ _ (.nil _ _ _)⟩
    cases h1 with
    | sl0 _ _ hid =>
      rcases hm.objs id _ hl with ⟨_, hr0⟩ | ⟨b', _, _, h2, _⟩
      · subst hr0
        simp at q3
        exact go _ _ rfl (by omega)
      · rw [hid] at h2; cases h2
    | sl _ _ _ _ b cap hid hr hc hmx =>
      rcases hm.objs id _ hl with ⟨h2, _⟩ | ⟨b', c, e', h2, hcb, h3, h4, h5⟩
      · rw [hid] at h2; cases h2
      · rw [hid] at h2; cases h2
        obtain ⟨c2, e2, fr, hc2, hsz⟩ := hr
        rw [hcb] at hc2; cases hc2
        have hcap : rows.length ≤ lo + cap := by
          rw [hsz] at h3
          exact Nat.le_of_mul_le_mul_right h3 q4
        exact go _ _ rfl (by omega)
end
end Go.RT
/- The capacity of an owned slice, told; reslicing into the room. -/
namespace Go.RT
open Go
set_option linter.all false
section
variable {P : Program} {o : Oper} {g : Bool} {G : Env} {x y : Operand} {t t' : TypeId} {H : Hp} {nx : Nat}
/-- what an owned slice's capacity is -/
theorem Next.capE {C : Cx} {N : Nat} {K : Act → World → Prop} (tt : Nat) {id sz lo len : Nat} {rows : List (List FV)} (hl : look G tt = some (.sl id sz lo len)) (ho : hlook H id = some (.flat sz rows)) (h0 : Nat.blt 0 sz = true) (hlr : lo ≤ rows.length)
    (h : ∀ cap : Nat, len ≤ cap → rows.length ≤ lo + cap → lo + cap ≤ maxLen → Next C N ((tt, .wc cap (.sl id sz lo len)) :: G) H nx K) : Next C N G H nx K := by
  intro a w hR
  obtain ⟨S, m, hm, hsl⟩ := hR.mem
  obtain ⟨v, hv, hr⟩ := hsl tt _ hl
  have fin : ∀ (ad : Option Addr) (cap : Nat), v = .slice ad len cap → (len ≤ cap ∧ rows.length ≤ lo + cap ∧ lo + cap ≤ maxLen) → K a w := fun ad cap hvv hc => by
    subst hvv
    refine h cap hc.1 hc.2.1 hc.2.2 a w ⟨hR.defers, hR.size, S, m, hm, fun t q hq => ?_⟩
    rw [look_cons] at hq
    by_cases ht : tt = t
    · rw [if_pos ht] at hq; cases hq; subst ht; exact ⟨_, hv, .wc _ _ _ _ hr⟩
    · rw [if_neg ht] at hq; exact hsl t q hq
  have hr' := hr
  cases hr with
  | sl0 _ _ hid =>
    rcases hm.objs id _ ho with ⟨_, hr0⟩ | ⟨b', _, _, h2, _⟩
    · subst hr0
      exact fin _ _ rfl ⟨Nat.le_refl _, by simp, by unfold maxLen; omega⟩
    · rw [hid] at h2; cases h2
  | sl _ _ _ _ b cap hid hrm hc hmx =>
    rcases hm.objs id _ ho with ⟨h2, _⟩ | ⟨b', c, e', h2, hcb, h3, h4, h5⟩
    · rw [hid] at h2; cases h2
    · rw [hid] at h2; cases h2
      obtain ⟨c2, e2, fr, hc2, hsz⟩ := hrm
      rw [hcb] at hc2; cases hc2
      have hcap : rows.length ≤ lo + cap := by
        rw [hsz] at h3
        exact Nat.le_of_mul_le_mul_right h3 (blt_of h0)
      exact fin _ _ rfl ⟨hc, hcap, hmx⟩
theorem op_cap {e : TypeId} {c : Nat} {p : PV} [hd : TyD P t (.slice e)] (ho : o.op = .call { callee := .builtin .cap, args := #[x], argTypes := #[t] }) (hx : Opd G g x (.wc c p)) : OpP P o g G (IV .i64 c) :=
  .of fun S m a w hg ha => by
    have h1 := hx.rep hg (by simp [ho, Op.operands, Call.operands]) ha
    generalize hv : a.eval x = v at h1
    cases h1 with
    | wc ad len cap p h =>
      refine ⟨.int .i64 c, ?_, .fz _ _ (.lit _)⟩
      simp [execOp, ho, hv, resolve, invoke, builtin, Builtin.cap_, run_underlying hd.h, goInt]
/-- 's[:h]' within the capacity: a view that may reach beyond the rows that are told -/
theorem op_slice_room {e : TypeId} {sz by_ id lo len h c : Nat} {z : Value} {oh : Operand} [hd : TyD P t (.slice e)] [hn : TyN P e sz by_ z] (ho : o.op = .slice t x none (some oh) none) (hx : Opd G g x (.wc c (.sl id sz lo len))) (hhi : Bnd G g (some oh) len h)
    (hh : g = true → h ≤ c) : OpP P o g G (.wc c (.sl id sz lo h)) :=
  .of fun S m a w hg ha => by
    have h1 := hx.rep hg (by simp [ho, Op.operands]) ha
    have b2 := hhi.val (o := o) (a := a) (w := w) (S := S) (m := m) hg (fun x hx => by simp [ho, Op.operands, hx]) ha
    have q := hh hg
    generalize hv : a.eval x = v at h1
    cases h1 with
    | wc ad len' cap p h' =>
      have := run_slice (P := P) (t := t) (w := w) (a := ad) (len := len') (cap := c) (lo := none) (hi := some (a.eval oh)) (l := 0) (h := h) (.inl ⟨rfl, rfl⟩) (by
        rcases b2 with ⟨c2, _⟩ | ⟨k, c2⟩
        · simp at c2
        · exact .inr ⟨k, by simpa using c2⟩) (Nat.zero_le _) q
      have e0 : (if c = 0 then ad else ad.map (·.add (0 * sz))) = ad := by
        split
        · rfl
        · cases ad with
          | none => rfl
          | some ad => simp [Addr.add]
      rw [e0] at this
      refine ⟨.slice ad h c, by simp only [execOp, ho, hv, Option.map_none, Option.map_some, Sem.run_bind, this, Result.andThen_ok, Sem.run_pure, Nat.sub_zero], .wc _ _ _ _ ?_⟩
      cases h' with
      | sl0 _ _ hid =>
        have : h = 0 := by omega
        subst this; exact .sl0 _ _ hid
      | sl _ _ _ _ b cap hid hr hc hmx => exact .sl _ _ _ _ _ _ hid hr q hmx
end
end Go.RT
/- 'copy' onto an owned slice. -/
namespace Go.RT
open Go
set_option linter.all false
section
variable {P : Program} {o : Oper} {g : Bool} {G : Env} {x y : Operand} {t t' : TypeId} {H : Hp} {nx : Nat}
theorem RowsRep.splice2 {α : Type} {R : Value → α → Prop} {c : Array Value} {sz : Nat} {rows rs : List (List α)} (h : RowsRep R c sz rows) {lo : Nat} {vs : List Value} (hlo : lo ≤ rows.length) (hfit : (lo + rs.length) * sz ≤ c.size) (hrs : ∀ r ∈ rs, r.length = sz)
    (hvl : vs.length = rs.length * sz) (hv : ∀ i j r p, rs[i]? = some r → r[j]? = some p → ∃ u, vs[i * sz + j]? = some u ∧ u.oneCell' = true ∧ R u p) :
    RowsRep R (c.toList.take (lo * sz) ++ vs ++ c.toList.drop (lo * sz + vs.length)).toArray sz (rows.take lo ++ rs ++ rows.drop (lo + rs.length)) := by
  obtain ⟨h1, h2, h3⟩ := h
  have hb := hfit
  have hsz : (c.toList.take (lo * sz) ++ vs ++ c.toList.drop (lo * sz + vs.length)).length = c.size := by
    simp only [List.length_append, List.length_take, Array.length_toList, List.length_drop, hvl]
    rw [Nat.add_mul] at hb; omega
  have hrl : (rows.take lo ++ rs ++ rows.drop (lo + rs.length)).length = rows.length ∨ (rows.take lo ++ rs ++ rows.drop (lo + rs.length)).length = lo + rs.length := by simp; omega
  refine ⟨by rw [List.size_toArray, hsz]; rcases hrl with e | e <;> rw [e] <;> assumption, fun r hr => ?_, fun i j r p hi hj => ?_⟩
  · rcases List.mem_append.1 hr with hr | hr
    · rcases List.mem_append.1 hr with hr | hr
      · exact h2 r (List.mem_of_mem_take hr)
      · exact hrs r hr
    · exact h2 r (List.mem_of_mem_drop hr)
  · have hget : ∀ q, (c.toList.take (lo * sz) ++ vs ++ c.toList.drop (lo * sz + vs.length)).toArray[q]? = if q < lo * sz then c[q]? else if q < lo * sz + vs.length then vs[q - lo * sz]? else c[q]? := fun q => by
      have hle : lo * sz ≤ c.size := by rw [Nat.add_mul] at hb; omega
      rw [List.getElem?_toArray, List.append_assoc, List.getElem?_append]
      simp only [List.length_take, Array.length_toList, Nat.min_eq_left hle]
      by_cases hq : q < lo * sz
      · rw [if_pos hq, if_pos hq, List.getElem?_take, if_pos hq, Array.getElem?_toList]
      · rw [if_neg hq, if_neg hq, List.getElem?_append]
        by_cases hq2 : q < lo * sz + vs.length
        · rw [if_pos (by omega), if_pos hq2]
        · rw [if_neg (by omega), if_neg hq2, List.getElem?_drop, Array.getElem?_toList]; congr 1; omega
    rw [hget]
    have hrsz : ∀ r, rows[i]? = some r → r.length = sz := fun r hr => h2 r (List.mem_of_getElem? hr)
    rw [List.append_assoc, List.getElem?_append] at hi
    simp only [List.length_take, Nat.min_eq_left (show lo ≤ rows.length by omega)] at hi
    by_cases c1 : i < lo
    · rw [if_pos c1, List.getElem?_take, if_pos c1] at hi
      have hjs : j < sz := by rw [← hrsz r hi]; exact (List.getElem?_eq_some_iff.1 hj).1
      have : i * sz + j < lo * sz := by
        have := Nat.mul_le_mul_right sz (show i + 1 ≤ lo by omega)
        rw [Nat.add_mul] at this; omega
      rw [if_pos this]; exact h3 i j r p hi hj
    · rw [if_neg c1, List.getElem?_append] at hi
      by_cases c2 : i - lo < rs.length
      · rw [if_pos c2] at hi
        have hjs : j < sz := by rw [← hrs r (List.mem_of_getElem? hi)]; exact (List.getElem?_eq_some_iff.1 hj).1
        have e1 : i * sz + j = lo * sz + ((i - lo) * sz + j) := by
          have : i = lo + (i - lo) := by omega
          rw [this, Nat.add_mul]; simp; omega
        have e2 : (i - lo) * sz + j < rs.length * sz := by
          have := Nat.mul_le_mul_right sz (show i - lo + 1 ≤ rs.length by omega)
          rw [Nat.add_mul] at this; omega
        rw [if_neg (by omega), if_pos (by omega), e1, Nat.add_sub_cancel_left]
        exact hv (i - lo) j r p hi hj
      · rw [if_neg c2, List.getElem?_drop] at hi
        rw [show lo + rs.length + (i - lo - rs.length) = i by omega] at hi
        have : lo * sz + vs.length ≤ i * sz + j := by
          have := Nat.mul_le_mul_right sz (show lo + rs.length ≤ i by omega)
          rw [Nat.add_mul] at this; omega
        rw [if_neg (by rw [hvl] at this; omega), if_neg (by omega)]
        exact h3 i j r p hi hj
/-- the cells of the first n rows of an owned slice -/
theorem cells_own {C : Cx} {S : Nat → Prop} {m : Ids} {w : World} (hm : Mem C H nx S m w) {id sz lo len n : Nat} {rows rs : List (List FV)} {v : Value} (h : Rep w S m v (.sl id sz lo len)) (hl : hlook H id = some (.flat sz rows)) (hn : n ≤ len) (hrs : (rows.drop lo).take n = rs) (hlen : rs.length = n) :
    ∃ ax c, v = .slice ax len c ∧ Src w (FRep w S) sz (.slice ax n c) rs := by
  have ho := hm.objs id _ hl
  cases h with
  | sl0 _ _ hid =>
    have : n = 0 := by omega
    subst this
    exact ⟨_, _, rfl, .inl ⟨List.eq_nil_of_length_eq_zero hlen, _, _, rfl⟩⟩
  | sl _ _ _ _ b cap hid hr hc hmx => exact ⟨_, _, rfl, src_own hm (.sl _ _ _ _ _ _ hid hr (by omega) hmx) hl hrs hlen⟩
theorem copy_core {C : Cx} {S : Nat → Prop} {m : Ids} {w : World} (hm : Mem C H nx S m w) {e : TypeId} {sz by_ : Nat} {z : Value} [hd : TyD P t (.slice e)] [hn : TyN P e sz by_ z] {t2 ty : TypeId} {id lo len l2 c2 : Nat} {ax : Option Addr} {rows rs : List (List FV)} {vd : Value}
    (hs : Rep w S m vd (.sl id sz lo len)) (hl : hlook H id = some (.flat sz rows)) (hx : Src w (FRep w S) sz (.slice ax rs.length c2) rs) (hmin : Nat.min l2 len = rs.length) (hlo : lo ≤ rows.length) :
    ∃ w', (Builtin.copy_ #[t, t2] ty #[vd, .slice ax l2 c2]).run P w = .ok (goInt rs.length) w' ∧ Mem C ((id, some (.flat sz (rows.take lo ++ rs ++ rows.drop (lo + rs.length)))) :: H) nx S m w' ∧ Le S m w S m w' := by
  have ho := hm.objs id _ hl
  have nothing : rs = [] → ∃ w', (Builtin.copy_ #[t, t2] ty #[vd, .slice ax l2 c2]).run P w = .ok (goInt rs.length) w' ∧ Mem C ((id, some (.flat sz (rows.take lo ++ rs ++ rows.drop (lo + rs.length)))) :: H) nx S m w' ∧ Le S m w S m w' := fun h => by
    subst h
    refine ⟨w, ?_, ?_, Le.refl _ _ _⟩
    · have hm0 : Nat.min l2 len = 0 := hmin
      generalize hq : Nat.min l2 len = q at hm0
      subst hm0
      cases hs <;> cases ax <;> simp [Builtin.copy_, run_underlying hd.h, run_size hn, Builtin.lenOf, Builtin.firstCells, loadCells, loadCellsFrom, storeCells, hq]
    · have e1 : rows.take lo ++ [] ++ rows.drop (lo + ([] : List (List FV)).length) = rows := by simp
      rw [e1]; exact hm.again hl
  rcases hx with ⟨h, _⟩ | ⟨bx, ox, cx, news, he, hsz, hnl, hnews, hnr⟩
  · exact nothing h
  · cases he
    have h1c : ∀ u ∈ news, u.oneCell' = true := fun u hu => by
      obtain ⟨j, hj, he⟩ := List.getElem_of_mem hu
      exact (hnews j u (by simp [hj, he])).2
    have hnw : ∀ j u, news[j]? = some u → w.cell? ((⟨bx, ox, none⟩ : Addr).add j) = some u := fun j u h => (hnews j u h).1
    cases hs with
    | sl0 _ _ h =>
      refine nothing (List.eq_nil_of_length_eq_zero ?_)
      rw [← hmin]; exact Nat.min_zero _
    | sl _ _ _ _ b cap hb hr hc hmx2 =>
      rcases ho with ⟨h1, _⟩ | ⟨b', c, e', h1, hcb, hRR⟩
      · rw [hb] at h1; cases h1
      · rw [hb] at h1; cases h1
        have hcs : c.size = (lo + cap) * sz := by
          obtain ⟨c2, e2, fr, q1, q2⟩ := hr
          rw [hcb] at q1; cases q1; simpa using q2
        have hle : rs.length ≤ len := by rw [← hmin]; exact Nat.min_le_right _ _
        have hfit : (lo + rs.length) * sz ≤ c.size := by rw [hcs]; exact Nat.mul_le_mul_right _ (by omega)
        have hfit2 : lo * sz + news.length ≤ c.size := by rw [hnl, ← Nat.add_mul]; exact hfit
        have hf := run_firstCells_some (P := P) w sz rs.length ⟨bx, ox, none⟩ l2 c2 news hnl hnw
        have hst := run_storeCells_at P b (lo * sz) e' news 0 c w hcb (by simpa using hfit2) h1c
        simp only [Nat.add_zero] at hst
        have hsz2 : (c.toList.take (lo * sz) ++ news ++ c.toList.drop (lo * sz + news.length)).toArray.size = c.size := by
          simp only [List.size_toArray, List.length_append, List.length_take, Array.length_toList, List.length_drop]
          omega
        have hfill := hRR.splice2 (lo := lo) hlo hfit hsz hnl (fun i j r p hi hj => by
          obtain ⟨u, hu, hp⟩ := hnr i j r p hi hj
          exact ⟨u, hu, h1c u (List.mem_of_getElem? hu), hp⟩)
        obtain ⟨k1, k2⟩ := hm.write hl hb hcb hsz2 (o' := .flat sz (rows.take lo ++ rs ++ rows.drop (lo + rs.length))) (plain_hown (by exact trivial)) (fun w' hle hnew => .inr ⟨b, _, e', hb, hnew, hfill.mono fun v p h => h.mono hle.st hle.same⟩)
        refine ⟨_, ?_, k1, k2⟩
        simp [Builtin.copy_, run_underlying hd.h, run_size hn, Builtin.lenOf, hmin, hf, hst]
/-- 'copy(d, s)' of owned slices (of one object, too); d may reach beyond the rows that are told -/
theorem op_copy {e : TypeId} {sz by_ id lo len id2 lo2 len2 n : Nat} {z : Value} {rows rows2 rs : List (List FV)} [hd : TyD P t (.slice e)] [hn : TyN P e sz by_ z] (ho : o.op = .call { callee := .builtin .copy, args := #[x, y], argTypes := #[t, t] })
    (hx : Opd G g x (.sl id sz lo len)) (hy : Opd G g y (.sl id2 sz lo2 len2)) (hl : hlook H id = some (.flat sz rows)) (hl2 : hlook H id2 = some (.flat sz rows2)) (hmin : Nat.min len2 len = n) (hrs : (rows2.drop lo2).take n = rs) (hlen : rs.length = n) (hlo : lo ≤ rows.length) :
    OpS P o g G H nx (IV .i64 n) ((id, some (.flat sz (rows.take lo ++ rs ++ rows.drop (lo + n)))) :: H) nx :=
  ⟨fun C S m a w hm hg ha K Q hK => by
    have h1 := hx.rep hg (by simp [ho, Op.operands, Call.operands]) ha
    have h2 := hy.rep hg (by simp [ho, Op.operands, Call.operands]) ha
    obtain ⟨ax, c, hv, hsrc⟩ := cells_own hm h2 hl2 (by rw [← hmin]; exact Nat.min_le_left _ _) hrs hlen
    subst hlen
    obtain ⟨w', r1, r2, r3⟩ := copy_core (P := P) (t := t) (t2 := t) (ty := o.type) hm h1 hl hsrc hmin hlo
    refine wp_value (w' := w') (v := goInt rs.length) ?_ (hK _ _ _ _ r2 r3 (.fz _ _ (.lit _)))
    simp [execOp, ho, resolve, invoke, builtin, hv, r1]⟩
end
end Go.RT
/- 'append(s[:n], make(S, k)..)' where it grows. -/
namespace Go.RT
open Go
set_option linter.all false
section
variable {P : Program} {o : Oper} {g : Bool} {G : Env} {x y : Operand} {t t' : TypeId} {H : Hp} {nx : Nat}
theorem run_append_zgrow {w : World} {t2 ty e : TypeId} {i : TypeInfo} {z : Value} {k : IntKind} (ht : P.underlying t = some (.slice e)) (ht2 : P.underlying t2 = some (.int k)) (hi : P.info? e = some i) (hz : i.zero = some z)
    (ao : Option Addr) (sLen sCap : Nat) (olds : List Value) (hlo : olds.length = sLen * i.size) (hold : (Builtin.firstCells i.size sLen (.slice ao sLen sCap)).run P w.drew = .ok olds.toArray w.drew) (n : Nat) (hn0 : n * i.size ≠ 0)
    (hg : sCap < sLen + n) (h63 : ((sLen + n : Nat) : Int) ≤ 4611686018427387904) (hb : n * i.bytes ≤ 281474976710656) (hfit : Builtin.nextslicecap (sLen + n) sCap * i.bytes ≤ 281474976710656) :
    (Builtin.append_ #[t, t2] ty #[.slice ao sLen sCap, .int .i64 n]).run P w =
      .ok (.slice (some ⟨w.heap.size, 0, none⟩) (sLen + n) (grownCap w (sLen + n) sCap e))
        (w.drew.alloc (.cells (olds.toArray ++ Builtin.zeroCells z.cells n ++ Builtin.zeroCells z.cells (grownCap w (sLen + n) sCap e - (sLen + n))) e)) := by
  have hn : ¬ (sLen + n ≤ sCap) := by omega
  have hwr : IntKind.i64.wrap (n : Int) = n := wrap_of (k := .i64) (by simp only [inr]; omega)
  have h63' : ¬ (9223372036854775807 < ((sLen : Int) + (n : Int))) := by omega
  have h48' : ¬ (281474976710656 < Builtin.nextslicecap (sLen + n) sCap * i.bytes) := by omega
  have q1 : ¬ ((n : Int) < 0) := by omega
  have q3 : ¬ ((281474976710656 : Int) < (n : Int) * (i.bytes : Int)) := by
    rw [← Int.natCast_mul]
    generalize n * i.bytes = q at hb
    omega
  simp [Builtin.append_, run_underlying ht, run_underlying ht2, sizeOf, typeInfo, zeroValue, hi, hz, Builtin.lenOf, asInt, asIntOf, hwr, q1, q3, hn, hn0, h63', h48', Question.forced, hold, newRow, grownCap]
/-- 'append(s[:n], make(S, k)..)' beyond the capacity: a fresh object; the old one stays -/
theorem op_append_zg {e : TypeId} {sz by_ id n k c : Nat} {kk : IntKind} {z : Value} {zs : List FV} {rows : List (List FV)} [hd : TyD P t (.slice e)] [hn : TyN P e sz by_ z] [hd2 : TyD P t' (.int kk)] (ho : o.op = .call { callee := .builtin .append, args := #[x, y], argTypes := #[t, t'] })
    (hx : Opd G g x (.wc c (.sl id sz 0 n))) (hy : Opd G g y (IV .i64 k)) (hl : hlook H id = some (.flat sz rows)) (hz : zeroFs z = zs) (hzl : Nat.beq zs.length sz = true) (hz1 : z.cells.toList.all (·.oneCell') = true) (h0 : Nat.blt 0 sz = true) (hnr : n ≤ rows.length) (hk : 0 < k) (hc : c < n + k) (hbd : (n + k) * by_ ≤ 140737488355328) (hmx : n + k ≤ 4611686018427387904) :
    OpS P o g G H nx (.sl nx sz 0 (n + k)) ((nx, some (.flat sz (rows.take n ++ List.replicate k zs))) :: H) (nx + 1) :=
  ⟨fun C S m a w hm hg ha K Q hK => by
    have h1 := hx.rep hg (by simp [ho, Op.operands, Call.operands]) ha
    have h2 := (hy.rep hg (by simp [ho, Op.operands, Call.operands]) ha).lit
    have h0 := blt_of h0
    have hzl := Nat.eq_of_beq_eq_true hzl
    subst hz
    have hzc : z.cells.size = sz := by rw [← hzl]; simp [zeroFs]
    generalize hv : a.eval x = v at h1
    cases h1 with
    | wc ad len' cap p h =>
      obtain ⟨ax, c', hv', hsrc⟩ := cells_own hm h hl (Nat.le_refl _) rfl (by simp; omega) (rs := rows.take n)
      cases hv'
      have hrl : (rows.take n).length = n := by simp; omega
      obtain ⟨olds, o1, o2, o3⟩ : ∃ olds : List Value, olds.length = n * sz ∧ (Builtin.firstCells sz n (.slice ad n c)).run P w.drew = .ok olds.toArray w.drew ∧ ∀ (i j : Nat) (r : List FV) (f : FV), (rows.take n)[i]? = some r → r[j]? = some f → ∃ u, olds[i * sz + j]? = some u ∧ u.oneCell' = true ∧ FRep w S u f := by
        rcases hsrc with ⟨he, _⟩ | ⟨b, off, c2, news, he, hsz, hnl, hnews, hR⟩
        · have hn0 : n = 0 := by rw [← hrl, he]; rfl
          subst hn0
          refine ⟨[], by simp, ?_, fun i j r f hi => by rw [he] at hi; simp at hi⟩
          cases ad <;> simp [Builtin.firstCells, loadCells, loadCellsFrom]
        · rw [hrl] at he hnl
          cases he
          refine ⟨news, hnl, run_firstCells_some (P := P) w.drew sz n _ n c news hnl (by simpa using fun j u h => (hnews j u h).1), fun i j r f hi hj => ?_⟩
          obtain ⟨u, hu, hf⟩ := hR i j r f hi hj
          exact ⟨u, hu, (hnews _ u hu).2, hf⟩
      obtain ⟨i, hi, i1, i2, i3⟩ := hn.h
      have hrun := run_append_zgrow (P := P) (ty := o.type) (t2 := t') hd.h hd2.h hi i3 ad n c olds (by rw [i1]; exact o1) (by rw [i1]; exact o2) k (by rw [i1]; exact Nat.mul_ne_zero (by omega) (by omega)) hc (by omega) (by rw [i2]; have := Nat.mul_le_mul_right by_ (show k ≤ n + k by omega); omega) (growslice_fits (by omega) (by rw [i2]; exact hbd))
      have hsize : (olds.toArray ++ Builtin.zeroCells z.cells k ++ Builtin.zeroCells z.cells (grownCap w (n + k) c e - (n + k))).size = grownCap w (n + k) c e * sz := by
        have hge := grownCap_ge w (n + k) c e
        simp only [Array.size_append, List.size_toArray, o1, size_zeroCells, hzc]
        rw [← Nat.add_mul, ← Nat.add_mul]; congr 1; omega
      have hge := grownCap_ge w (n + k) c e
      obtain ⟨zc1, zc2⟩ := zeroCells_get (cs := z.cells) (n := k)
      have hdrew : Le S m w S m w.drew := ⟨fun _ h => h, fun _ _ => rfl, fun _ _ h => h, fun _ _ h => h⟩
      have hrsz : ∀ r ∈ rows.take n, r.length = sz := fun r hr => by
        rcases hm.objs id _ hl with ⟨_, hr0⟩ | ⟨_, _, _, _, _, _, h4, _⟩
        · rw [hr0] at hr; simp at hr
        · exact h4 r (List.mem_of_mem_take hr)
      obtain ⟨k1, k2, k3⟩ := hm.drew.new (olds.toArray ++ Builtin.zeroCells z.cells k ++ Builtin.zeroCells z.cells (grownCap w (n + k) c e - (n + k))) e (.flat sz (rows.take n ++ List.replicate k (zeroFs z))) trivial (fun w' m' hle hnew hid => .inr ⟨_, _, _, hid, hnew, by
        have hall := hdrew.trans hle
        refine RowsRep.append hrsz (fun r hr => by rw [List.eq_of_mem_replicate hr]; exact hzl) (by rw [hsize, hrl, List.length_replicate]; exact Nat.mul_le_mul_right _ hge) (fun i j r p hi hj => ?_) (fun i j r p hi hj => ?_)
        · obtain ⟨u, hu, ho1, hp⟩ := o3 i j r p hi hj
          have hlt : i * sz + j < olds.length := (List.getElem?_eq_some_iff.1 hu).1
          refine ⟨u, ?_, ho1, hp.mono hall.st hall.same⟩
          rw [Array.append_assoc, Array.getElem?_append_left (by simpa using hlt)]; simpa using hu
        · rw [List.getElem?_replicate] at hi
          split at hi
          · rename_i hik
            cases hi
            have hj2 : j < sz := by rw [← hzl]; exact (List.getElem?_eq_some_iff.1 hj).1
            obtain ⟨u, hu, hone, hr⟩ := (zeroFs_rep hz1 w' S).2 j p hj
            have hq := zc2 i j hik (by rw [hzc]; exact hj2)
            rw [hzc] at hq zc1
            have hlt : i * sz + j < k * sz := by
              have := Nat.mul_le_mul_right sz (show i + 1 ≤ k by omega)
              rw [Nat.add_mul] at this; omega
            refine ⟨u, ?_, hone, hr⟩
            rw [Array.append_assoc, Array.getElem?_append_right (by simp [o1, hrl]), Array.getElem?_append_left (by simp only [List.size_toArray, o1, hrl, size_zeroCells, hzc]; omega)]
            simp only [List.size_toArray, o1, hrl, Nat.add_sub_cancel_left]
            rw [← Array.getElem?_toList, hq]; exact hu
          · cases hi⟩)
      have hrep := Rep.sl (w := w.drew.alloc (.cells (olds.toArray ++ Builtin.zeroCells z.cells k ++ Builtin.zeroCells z.cells (grownCap w (n + k) c e - (n + k))) e)) (S := S) (m := setM m nx (some w.drew.heap.size)) nx sz 0 (n + k) w.drew.heap.size (grownCap w (n + k) c e) (setM_self _ _ _) ⟨_, e, _, k3, by rw [hsize]; simp⟩ hge (by have := grownCap_le_maxLen w (n + k) c e (by unfold maxLen; omega); omega)
      refine wp_value (v := .slice (some ⟨w.heap.size, 0, none⟩) (n + k) (grownCap w (n + k) c e)) ?_ (hK _ _ S _ k1 (hdrew.trans k2) (by simpa using hrep))
      simp [execOp, ho, hv, h2, resolve, invoke, builtin, hrun]⟩
end
end Go.RT
/- slices.overlaps of two owned objects; an owned slice called by a new number. -/
namespace Go.RT
open Go
set_option linter.all false
class FnOv (P : Program) (f : FuncId) (t : outParam TypeId) : Prop where
  h : ∃ fn tR, P.funcs[f]? = some fn ∧ (fn.name == "runtime.NumGoroutine") = false ∧ fn.body.isNone = true ∧ Extern.findNext fn = none ∧ Extern.find fn = some (Extern.SlicesOverlaps.overlaps #[t, t] #[tR])
theorem run_overlaps_none {P : Program} (w : World) (tS tR e : TypeId) (ht : P.underlying tS = some (.slice e)) (size : Nat) (hz : ∀ w, (Go.sizeOf e).run P w = .ok size w) (oa ob : Option Addr) (la ca lb cb : Nat) (hn : oa = none ∨ ob = none) :
    (Extern.SlicesOverlaps.overlaps #[tS, tS] #[tR] #[.slice oa la ca, .slice ob lb cb]).run P w = .ok (.bool false) w := by
  change Sem.run P (α := Value) (do
    let some t := (#[tS, tS] : Array TypeId)[0]? | stuck "slices.overlaps: no parameter types"
    let .slice elem ← underlying t | stuck "slices.overlaps: slice type expected"
    let size ← sizeOf elem
    match oa, ob with
    | some a, some b =>
      if la = 0 ∨ lb = 0 ∨ size = 0 then pure (Value.bool false)
      else if a.block != b.block && (← frozen a) && (← frozen b) then unsupported .addressObserved
      else do
        if a.block != b.block then do
          noView a; noView b
          if ← mayBeOne a b then return Value.bool ((← choose (.extern "sameAddr.stringBytes" 2)) == 1)
        pure (Value.bool (a.block == b.block && a.off < b.off + lb * size && b.off < a.off + la * size))
    | _, _ => pure (Value.bool false)) w = _
  rcases hn with rfl | rfl
  · simp [run_underlying ht, hz]
  · cases oa <;> simp [run_underlying ht, hz]
section
variable {P : Program} {o : Oper} {g : Bool} {G : Env} {x y : Operand} {t t' : TypeId} {H : Hp} {nx : Nat}
theorem op_overlaps {f : FuncId} {ts : Array TypeId} {e : TypeId} {sz by_ id lo len id2 lo2 len2 : Nat} {z : Value} {rows rows2 : List (List FV)} [hf : FnOv P f t] [hd : TyD P t (.slice e)] [hn : TyN P e sz by_ z] (ho : o.op = .call { callee := .value (.func f), args := #[x, y], argTypes := ts })
    (hx : Opd G g x (.sl id sz lo len)) (hy : Opd G g y (.sl id2 sz lo2 len2)) (hl : hlook H id = some (.flat sz rows)) (hl2 : hlook H id2 = some (.flat sz rows2)) (hne : Nat.beq id id2 = false) (hr2 : 0 < rows2.length) (h0 : Nat.blt 0 sz = true) :
    OpL P o g G H [id, id2] (BV false) := fun H' nx' hag =>
  have hl := (hag id (by simp)).trans hl
  have hl2 := (hag id2 (by simp)).trans hl2
  .of fun C S m a w hm hg ha => by
    have h1 := hx.rep hg (by simp [ho, Op.operands, Call.operands]) ha
    have h2 := hy.rep hg (by simp [ho, Op.operands, Call.operands]) ha
    have h0 := blt_of h0
    obtain ⟨fn, tR, q1, q2, q3, q4, q5⟩ := hf.h
    refine ⟨.bool false, ?_, .fz _ _ (.lit _)⟩
    have hrun : ∀ u v, a.eval x = u → a.eval y = v → (Extern.SlicesOverlaps.overlaps #[t, t] #[tR] #[u, v]).run P w = .ok (.bool false) w → (execOp a.eval o).run P w = .ok (.value (.bool false)) w := fun u v hu hv hr => by
      have hc := run_callFunc_extern q1 q2 q3 q4 q5 #[u, v] w
      rw [hr] at hc
      have h3 : fn.body = none := by simpa using q3
      have h5 : ¬ (fn.name = "runtime.NumGoroutine") := by simpa using q2
      have hself : a.eval (.func f) = .func (.func f) #[] #[] := rfl
      simp only [execOp, ho, resolve, hself, Deferred.ofValue, invoke, Sem.run_bind, Sem.run_pure, Result.andThen_ok]
      simpa [hu, hv, Result.andThen] using hc
    generalize hu : a.eval x = u at h1
    generalize hv : a.eval y = v at h2
    refine hrun u v hu hv ?_
    have hsz := fun w => run_size (P := P) hn w
    cases h1 with
    | sl0 _ _ hid => cases h2 <;> exact run_overlaps_none w t tR e hd.h sz hsz _ _ _ _ _ _ (.inl rfl)
    | sl _ _ _ _ b cap hid hr hc hmx =>
      cases h2 with
      | sl0 _ _ hid2 => exact run_overlaps_none w t tR e hd.h sz hsz _ _ _ _ _ _ (.inr rfl)
      | sl _ _ _ _ b2 cap2 hid2 hr2' hc2 hmx2 =>
        rcases hm.objs id _ hl with ⟨k1, _⟩ | ⟨b', c, e', k1, k2, k3⟩
        · rw [hid] at k1; cases k1
        · rw [hid] at k1; cases k1
          rcases hm.objs id2 _ hl2 with ⟨k4, _⟩ | ⟨b'', c2, e2, k4, k5, k6⟩
          · rw [hid2] at k4; cases k4
          · rw [hid2] at k4; cases k4
            have hbne : b ≠ b2 := fun e => by
              subst e
              have := hm.inj _ _ _ _ _ hl hl2 hid hid2
              subst this; simp [Nat.beq_refl] at hne
            have hk : c2.size ≠ 0 := by
              have := Nat.le_trans (Nat.mul_le_mul_right sz (show 1 ≤ rows2.length from hr2)) k6.1
              omega
            exact Lib.run_overlaps_apart w t tR e hd.h sz hsz ⟨b, lo * sz, none⟩ ⟨b2, lo2 * sz, none⟩ len cap len2 cap2 hbne e' e2 c.size c2.size (by simp [World.shape?, k2]) (by simp [World.shape?, k5]) hk (by simp [World.frozen?, k2]) (by simp [World.frozen?, k2])
/-- an owned slice called by a new number -/
theorem Next.retag {C : Cx} {N : Nat} {K : Act → World → Prop} (tt : Nat) {id sz lo len : Nat} {rows : List (List FV)} (hl : look G tt = some (.sl id sz lo len)) (ho : hlook H id = some (.flat sz rows))
    (h : Next C N ((tt, .sl nx sz lo len) :: G) ((nx, some (.flat sz rows)) :: (id, none) :: H) (nx + 1) K) : Next C N G H nx K := by
  intro a w hR
  obtain ⟨S, m, hm, hsl⟩ := hR.mem
  obtain ⟨x, hx⟩ := (hm.objs id _ ho).known
  obtain ⟨k1, k2⟩ := hm.retag ho hx
  refine h a w ⟨hR.defers, hR.size, S, _, k1, fun t q hq => ?_⟩
  rw [look_cons] at hq
  by_cases h1 : tt = t
  · rw [if_pos h1] at hq; cases hq; subst h1
    obtain ⟨v, hv, hr⟩ := hsl tt _ hl
    refine ⟨v, hv, ?_⟩
    cases hr with
    | sl0 _ _ q => rw [q] at hx; cases hx; exact .sl0 _ _ (setM_self _ _ _)
    | sl _ _ _ _ b cap q hr hc hmx => rw [q] at hx; cases hx; exact .sl _ _ _ _ b cap (setM_self _ _ _) hr hc hmx
  · rw [if_neg h1] at hq; exact (hsl t q hq).mono k2
/-- 's[l:]' of a slice whose capacity is told; it may reach beyond the rows that are told -/
theorem op_slice_fromR {e : TypeId} {sz by_ id lo len l c : Nat} {z : Value} {ol : Operand} [hd : TyD P t (.slice e)] [hn : TyN P e sz by_ z] (ho : o.op = .slice t x (some ol) none none) (hx : Opd G g x (.wc c (.sl id sz lo len))) (hlo : Bnd G g (some ol) 0 l)
    (hh : g = true → l ≤ len ∧ l < c) : OpP P o g G (.sl id sz (lo + l) (len - l)) :=
  .of fun S m a w hg ha => by
    have h1 := hx.rep hg (by simp [ho, Op.operands]) ha
    have b1 := hlo.val (o := o) (a := a) (w := w) (S := S) (m := m) hg (fun x hx => by simp [ho, Op.operands, hx]) ha
    obtain ⟨q1, q2⟩ := hh hg
    generalize hv : a.eval x = v at h1
    cases h1 with
    | wc ad len' cap p h' =>
      cases h' with
      | sl0 _ _ hid => omega
      | sl _ _ _ _ b cap hid hr hc hmx =>
        have := run_slice (P := P) (t := t) (w := w) (a := some ⟨b, lo * sz, none⟩) (len := len) (cap := c) (lo := some (a.eval ol)) (hi := none) (l := l) (h := len) (by
          rcases b1 with ⟨c2, _⟩ | ⟨k, c2⟩
          · simp at c2
          · exact .inr ⟨k, by simpa using c2⟩) (.inl ⟨rfl, rfl⟩) q1 hc
        rw [if_neg (by omega), Option.map_some, Addr.add_lit, show lo * sz + l * sz = (lo + l) * sz by rw [Nat.add_mul]] at this
        refine ⟨_, by simp only [execOp, ho, hv, Option.map_none, Option.map_some, Sem.run_bind, this, Result.andThen_ok, Sem.run_pure], .sl _ _ _ _ b (c - l) hid (by rw [show lo + l + (c - l) = lo + c by omega]; exact hr) (by omega) (by omega)⟩
theorem Next.unwc {C : Cx} {N : Nat} {K : Act → World → Prop} (tt : Nat) {c : Nat} {p : PV} (hl : look G tt = some (.wc c p)) (h : Next C N ((tt, p) :: G) H nx K) : Next C N G H nx K := by
  intro a w hR
  obtain ⟨S, m, hm, hsl⟩ := hR.mem
  refine h a w ⟨hR.defers, hR.size, S, m, hm, fun t q hq => ?_⟩
  rw [look_cons] at hq
  by_cases ht : tt = t
  · rw [if_pos ht] at hq; cases hq; subst ht
    obtain ⟨v, hv, hr⟩ := hsl tt _ hl
    cases hr with
    | wc _ _ _ _ h' => exact ⟨_, hv, h'⟩
  · rw [if_neg ht] at hq; exact hsl t q hq
/-- the last rows of an owned object are no longer told -/
theorem Next.trim {C : Cx} {N : Nat} {K : Act → World → Prop} (id n : Nat) {sz : Nat} {rows : List (List FV)} (hl : hlook H id = some (.flat sz rows)) (h : Next C N G ((id, some (.flat sz (rows.take n))) :: H) nx K) : Next C N G H nx K := by
  intro a w hR
  obtain ⟨S, m, hm, hsl⟩ := hR.mem
  refine h a w ⟨hR.defers, hR.size, S, m, hm.retell hl (fun ho => ?_) (no_own (by exact trivial)), hsl⟩
  rcases ho with ⟨k1, k2⟩ | ⟨b, c, e, k1, k2, k3, k4, k5⟩
  · subst k2; exact .inl ⟨k1, by simp⟩
  · refine .inr ⟨b, c, e, k1, k2, Nat.le_trans (Nat.mul_le_mul_right _ (by simp; omega)) k3, fun r hr => k4 r (List.mem_of_mem_take hr), fun i j r p hi hj => ?_⟩
    rw [List.getElem?_take] at hi
    split at hi
    · exact k5 i j r p hi hj
    · cases hi
theorem rep_renumber {w : World} {S : Nat → Prop} {m : Ids} {v : Value} {a sz lo len : Nat} {x : Option Nat} (hr : Rep w S m v (.sl a sz lo len)) (hx : m a = some x) {n : Nat} {m' : Ids} (hn : m' n = some x) : Rep w S m' v (.sl n sz lo len) := by
  cases hr with
  | sl0 _ _ q => rw [q] at hx; cases hx; exact .sl0 _ _ hn
  | sl _ _ _ _ b cap q hr hc hmx => rw [q] at hx; cases hx; exact .sl _ _ _ _ b cap hn hr hc hmx
/-- an object, whose slice lies in a cell, called by a new number -/
theorem Next.retagCell {C : Cx} {N : Nat} {K : Act → World → Prop} (id row col : Nat) {s a sz lo len : Nat} {rows rows' : List (List PV)} {r : List PV} {orows : List (List FV)} (hl : hlook H id = some (.refs s rows)) (hrow : rows[row]? = some r) (hcol : r[col]? = some (.sl a sz lo len)) (ha : hlook H a = some (.flat sz orows))
    (hr : rows.set row (r.set col (.sl nx sz lo len)) = rows') (h : Next C N G ((id, some (.refs s rows')) :: (nx, some (.flat sz orows)) :: (a, none) :: H) (nx + 1) K) : Next C N G H nx K := by
  subst hr
  intro ac w hR
  obtain ⟨S, m, hm, hsl⟩ := hR.mem
  obtain ⟨x, hx⟩ := (hm.objs a _ ha).known
  obtain ⟨k1, kle⟩ := hm.retag ha hx
  have hidne : id ≠ nx := by obtain ⟨y, hy⟩ := (hm.objs id _ hl).known; have := hm.lt hy; omega
  have hida : id ≠ a := fun e => by subst e; rw [hl] at ha; cases ha
  have m2 := k1.retell (id := id) (o := .refs s rows) (o' := .refs s (rows.set row (r.set col (.sl nx sz lo len)))) (by rw [hlook_cons, if_neg (fun e => hidne e.symm), hlook_cons, if_neg (fun e => hida e.symm)]; exact hl) (fun ho => by
    rcases ho with ⟨k1, k2⟩ | ⟨b, c, e, k1, k2, k3⟩
    · subst k2; simp at hrow
    · refine .inr ⟨b, c, e, k1, k2, by simpa using k3.1, fun r' hr' => ?_, fun i j r' p hi hj => ?_⟩
      · rcases List.mem_or_eq_of_mem_set hr' with h1 | rfl
        · exact k3.2.1 r' h1
        · simpa using k3.2.1 r (List.mem_of_getElem? hrow)
      · rw [List.getElem?_set] at hi
        by_cases h1 : row = i
        · subst h1
          have hlt : row < rows.length := (List.getElem?_eq_some_iff.1 hrow).1
          simp only [if_true, hlt] at hi
          cases hi
          rw [List.getElem?_set] at hj
          by_cases h2 : col = j
          · subst h2
            have hlt2 : col < r.length := (List.getElem?_eq_some_iff.1 hcol).1
            simp only [if_true, hlt2] at hj
            cases hj
            obtain ⟨u, hu, ho1, hp⟩ := k3.2.2 row col r _ hrow hcol
            exact ⟨u, hu, ho1, rep_renumber hp (kle.ids _ _ hx) (setM_self _ _ _)⟩
          · rw [if_neg h2] at hj
            exact k3.2.2 row j r p hrow hj
        · rw [if_neg h1] at hi
          exact k3.2.2 i j r' p hi hj) (own_setCell (fun a b e => by cases e) hrow)
  exact h ac w ⟨hR.defers, hR.size, S, _, m2, fun t q hq => (hsl t q hq).mono kle⟩
theorem opdI {k : IntKind} {a b : Int} (h2 : Opd G g x (IV k a)) (h : a = b) : Opd G g x (IV k b) := h ▸ h2
end
end Go.RT
/- Nil checks. Slices that one cell alone leads to: taken out as an object of its own, put back, frozen. -/
namespace Go.RT
open Go
set_option linter.all false
section
variable {P : Program} {o : Oper} {g : Bool} {G : Env} {x y : Operand} {t t' : TypeId} {H : Hp} {nx : Nat}
theorem op_nilck_ptr {id sz row col : Nat} (ho : o.op = .nilCheck x) (hx : Opd G g x (.ptr id sz row col)) : OpP P o g G (.ptr id sz row col) :=
  .of fun S m a w hg ha => by
    have h1 := hx.rep hg (by simp [ho, Op.operands]) ha
    generalize hv : a.eval x = v at h1
    refine ⟨v, ?_, h1⟩
    cases h1 with
    | ptr => simp [execOp, ho, hv]
theorem RowsRep.setCell {α : Type} {R : Value → α → Prop} {c : Array Value} {s : Nat} {rows : List (List α)} (h : RowsRep R c s rows) {i j : Nat} {r : List α} {p q : α} (hrow : rows[i]? = some r) (hcol : r[j]? = some p) (hq : ∀ u, c[i * s + j]? = some u → R u p → R u q) :
    RowsRep R c s (rows.set i (r.set j q)) := by
  refine ⟨by simpa using h.1, fun r' hr' => ?_, fun i2 j2 r2 p2 hi hj => ?_⟩
  · rcases List.mem_or_eq_of_mem_set hr' with h1 | rfl
    · exact h.2.1 r' h1
    · simpa using h.2.1 r (List.mem_of_getElem? hrow)
  · rw [List.getElem?_set] at hi
    by_cases h1 : i = i2
    · subst h1
      have hlt : i < rows.length := (List.getElem?_eq_some_iff.1 hrow).1
      simp only [if_true, hlt] at hi
      cases hi
      rw [List.getElem?_set] at hj
      by_cases h2 : j = j2
      · subst h2
        have hlt2 : j < r.length := (List.getElem?_eq_some_iff.1 hcol).1
        simp only [if_true, hlt2] at hj
        cases hj
        obtain ⟨u, hu, ho1, hp⟩ := h.2.2 i j r _ hrow hcol
        exact ⟨u, hu, ho1, hq u hu hp⟩
      · rw [if_neg h2] at hj
        exact h.2.2 i j2 r p2 hrow hj
    · rw [if_neg h1] at hi
      exact h.2.2 i2 j2 r2 p2 hi hj
/-- which cells own, behind a cell set anew -/
theorem own_set_other {id s i j : Nat} {rows : List (List PV)} {r : List PV} {q : PV} (hrow : rows[i]? = some r) (hl : hlook H id = some (.refs s rows)) {H1 : Hp} {id2 s2 i2 j2 isz : Nat} {irows : List (List FV)} (hO : OwnE ((id, some (.refs s (rows.set i (r.set j q)))) :: H1) id2 s2 i2 j2 isz irows)
    (hh : ∀ o, id ≠ id2 → hlook H1 id2 = some o → (∃ rows r, o = .refs s2 rows ∧ rows[i2]? = some r ∧ r[j2]? = some (.own isz irows)) → hlook H id2 = some o) : (id2 = id ∧ i2 = i ∧ j2 = j ∧ q = .own isz irows ∧ s2 = s) ∨ (OwnE H id2 s2 i2 j2 isz irows ∧ ¬ (id2 = id ∧ i2 = i ∧ j2 = j)) := by
  obtain ⟨rows2, r2, h1, h2, h3⟩ := hO
  rw [hlook_cons] at h1
  by_cases he : id = id2
  · rw [if_pos he] at h1
    subst he
    cases h1
    rw [List.getElem?_set] at h2
    by_cases hi : i = i2
    · subst hi
      rw [if_pos rfl, if_pos (List.getElem?_eq_some_iff.1 hrow).1] at h2
      cases h2
      rw [List.getElem?_set] at h3
      by_cases hj : j = j2
      · subst hj
        rw [if_pos rfl] at h3
        split at h3
        · exact .inl ⟨rfl, rfl, rfl, Option.some.inj h3, rfl⟩
        · cases h3
      · rw [if_neg hj] at h3
        exact .inr ⟨⟨rows, r, hl, hrow, h3⟩, fun ⟨_, _, e⟩ => hj e.symm⟩
    · rw [if_neg hi] at h2
      exact .inr ⟨⟨rows, r2, hl, h2, h3⟩, fun ⟨_, e, _⟩ => hi e.symm⟩
  · rw [if_neg he] at h1
    exact .inr ⟨⟨rows2, r2, hh _ he h1 ⟨rows2, r2, rfl, h2, h3⟩, h2, h3⟩, fun ⟨e, _, _⟩ => he e.symm⟩
/-- a slice that a cell owns, taken out -/
theorem Next.take {C : Cx} {N : Nat} {K : Act → World → Prop} (id i j : Nat) {s isz : Nat} {rows rows' : List (List PV)} {r : List PV} {irows : List (List FV)} (hl : hlook H id = some (.refs s rows)) (hrow : rows[i]? = some r) (hcol : r[j]? = some (.own isz irows)) (hr : rows.set i (r.set j (.sl nx isz 0 irows.length)) = rows')
    (h : Next C N G ((id, some (.refs s rows')) :: (nx, some (.flat isz irows)) :: H) (nx + 1) K) (hs : Nat.blt isz 1000000 = true := by rfl) : Next C N G H nx K := by
  have hs := blt_of hs
  subst hr
  intro ac w hR
  obtain ⟨S, m, hm, hsl⟩ := hR.mem
  obtain ⟨ib, hn⟩ := hm.nst
  have hO : OwnE H id s i j isz irows := ⟨rows, r, hl, hrow, hcol⟩
  obtain ⟨b, c, e, u, k1, k2, k3, k4⟩ := hn.at_ _ _ _ _ _ _ hO
  have hids : ∀ i y, m i = some y → i ≠ nx := fun i y hi => by have := hm.lt hi; omega
  have hle : Le S m w S (setM m nx (ib id i j)) w := ⟨fun _ h => h, fun _ _ => rfl, fun i y hi => by rw [setM_other (hids i y hi)]; exact hi, fun _ _ h => h⟩
  have hidne : id ≠ nx := hids _ _ k1
  have hHne : ∀ id2 o2, hlook H id2 = some o2 → id2 ≠ nx := fun id2 o2 h2 => by obtain ⟨y, hy⟩ := (hm.objs id2 _ h2).known; exact hids _ _ hy
  have ex : ∀ id2 o2, hlook ((id, some (Ob.refs s (rows.set i (r.set j (.sl nx isz 0 irows.length))))) :: (nx, some (.flat isz irows)) :: H) id2 = some o2 → (id2 = id ∧ o2 = .refs s (rows.set i (r.set j (.sl nx isz 0 irows.length)))) ∨ (id2 = nx ∧ o2 = .flat isz irows) ∨ (id2 ≠ id ∧ id2 ≠ nx ∧ hlook H id2 = some o2) := fun id2 o2 h2 => by
    rw [hlook_cons] at h2
    by_cases h3 : id = id2
    · rw [if_pos h3] at h2; cases h2; exact .inl ⟨h3.symm, rfl⟩
    · rw [if_neg h3, hlook_cons] at h2
      by_cases h4 : nx = id2
      · rw [if_pos h4] at h2; cases h2; exact .inr (.inl ⟨h4.symm, rfl⟩)
      · rw [if_neg h4] at h2; exact .inr (.inr ⟨fun e => h3 e.symm, fun e => h4 e.symm, h2⟩)
  have hrep : Rep w S (setM m nx (ib id i j)) u (.sl nx isz 0 irows.length) := by
    rcases k4 with ⟨q1, q2, q3⟩ | ⟨b', c', e', cap, q1, q2, q3, q4, q5, q6, q7, q8, q9, q10, q11⟩ | ⟨_, _, _, _, k, _, _, q2, _⟩ | ⟨_, q2, _⟩
    · subst q2; subst q3; exact .sl0 _ _ (by rw [setM_self, q1])
    rotate_left
    · omega
    · omega
    · subst q2
      have := Rep.sl (w := w) (S := S) (m := setM m nx (ib id i j)) nx isz 0 irows.length b' cap (by rw [setM_self, q1]) ⟨c', e', _, q5, by rw [q6, Nat.zero_add]⟩ q3 (by omega)
      simpa using this
  have hxb : ∀ b', ib id i j = some b' → ¬ S b' ∧ b' < w.heap.size ∧ (C.w0.heap.size ≤ b' ∨ C.own0 b') := fun b' hb => by
    exact k4.blk hb
  refine h ac w ⟨hR.defers, hR.size, S, setM m nx (ib id i j), hm.step hle ⟨rfl, Nat.le_refl _⟩ rfl rfl (fun _ _ => rfl) (Nat.le_refl _) (fun _ _ _ => rfl) (fun _ h => .inl h) (fun id2 o2 h2 => ?_) (fun id2 o2 b2 h2 hb2 => ?_) (fun i1 i2 o1 o2 b2 h1 h2 h3 h4 => ?_) hm.stab (fun i2 hi2 => ?_) ?_, fun t q hq => (hsl t q hq).mono hle⟩
  · rcases ex id2 o2 h2 with ⟨rfl, rfl⟩ | ⟨rfl, rfl⟩ | ⟨_, _, h3⟩
    · rcases hm.objs _ _ hl with ⟨q1, q2⟩ | ⟨b2, c2, e2, q1, q2, q3⟩
      · subst q2; simp at hrow
      · rw [k1] at q1; cases q1
        rw [k2] at q2; cases q2
        exact .inr ⟨_, _, _, hle.ids _ _ k1, k2, (q3.mono fun v p h => h.mono hle).setCell hrow hcol (fun u2 hu2 _ => by rw [k3] at hu2; cases hu2; exact hrep)⟩
    · rcases k4 with ⟨q1, q2, q3⟩ | ⟨b', c', e', cap, q1, q2, q3, q4, q5, q6, q7, q8, q9, q10, q11⟩ | ⟨_, _, _, _, k, _, _, q2, _⟩ | ⟨_, q2, _⟩
      · exact .inl ⟨by rw [setM_self, q1], q3⟩
      · exact .inr ⟨b', c', e', by rw [setM_self, q1], q5, q7⟩
      · omega
      · omega
    · exact (hm.objs _ _ h3).mono hle (fun _ _ => rfl)
  · rcases ex id2 o2 h2 with ⟨rfl, rfl⟩ | ⟨rfl, rfl⟩ | ⟨_, hne, h3⟩
    · rw [setM_other hidne] at hb2; exact hm.blk _ _ b2 hl hb2
    · rw [setM_self] at hb2; exact hxb b2 (by simpa using hb2)
    · rw [setM_other hne] at hb2; exact hm.blk _ _ b2 h3 hb2
  · have old : ∀ i1 o1, hlook ((id, some (Ob.refs s (rows.set i (r.set j (.sl nx isz 0 irows.length))))) :: (nx, some (.flat isz irows)) :: H) i1 = some o1 → i1 ≠ nx → ∃ o3, hlook H i1 = some o3 := fun i1 o1 h1 hne => by
      rcases ex i1 o1 h1 with ⟨rfl, _⟩ | ⟨rfl, _⟩ | ⟨_, _, h3⟩
      · exact ⟨_, hl⟩
      · exact absurd rfl hne
      · exact ⟨_, h3⟩
    by_cases a1 : i1 = nx <;> by_cases a2 : i2 = nx
    · rw [a1, a2]
    · subst a1
      obtain ⟨o3, ho3⟩ := old i2 o2 h2 a2
      rw [setM_self] at h3; rw [setM_other a2] at h4
      exact absurd h4 (hn.apart _ _ _ _ _ _ b2 hO (by simpa using h3) _ _ ho3)
    · subst a2
      obtain ⟨o3, ho3⟩ := old i1 o1 h1 a1
      rw [setM_self] at h4; rw [setM_other a1] at h3
      exact absurd h3 (hn.apart _ _ _ _ _ _ b2 hO (by simpa using h4) _ _ ho3)
    · obtain ⟨o3, ho3⟩ := old i1 o1 h1 a1
      obtain ⟨o4, ho4⟩ := old i2 o2 h2 a2
      rw [setM_other a1] at h3; rw [setM_other a2] at h4
      exact hm.inj _ _ _ _ b2 ho3 ho4 h3 h4
  · rw [setM_other (by omega)]; exact hm.fresh i2 (by omega)
  · have hOE : ∀ id2 s2 i2 j2 isz2 irows2, OwnE ((id, some (Ob.refs s (rows.set i (r.set j (.sl nx isz 0 irows.length))))) :: (nx, some (.flat isz irows)) :: H) id2 s2 i2 j2 isz2 irows2 → OwnE H id2 s2 i2 j2 isz2 irows2 ∧ ¬ (id2 = id ∧ i2 = i ∧ j2 = j) := fun id2 s2 i2 j2 isz2 irows2 h2 => by
      rcases own_set_other (H := H) hrow hl h2 (fun o hne h3 ⟨rows2, r2, ho, _, _⟩ => by
        rw [hlook_cons] at h3
        by_cases h4 : nx = id2
        · rw [if_pos h4] at h3; cases h3; cases ho
        · rwa [if_neg h4] at h3) with ⟨_, _, _, q, _⟩ | q
      · cases q
      · exact q
    refine ⟨ib, hn.keep (fun i => i) (fun id2 s2 i2 j2 isz2 irows2 h2 => ⟨(hOE _ _ _ _ _ _ h2).1, ?_⟩) (fun _ _ _ _ _ _ _ _ _ _ _ _ _ _ h => h) (fun _ h => h) (fun _ _ => rfl) (fun _ _ _ _ _ _ _ c e _ _ _ k2 k3 => ⟨c, e, k2, k3⟩) (fun id2 s2 i2 j2 isz2 irows2 b' h2 hb g1 g2 g3 g4 => ⟨rfl, g1, g2, g3, fun id3 o3 h3 hc => ?_⟩)⟩
    · obtain ⟨rows3, r3, q1, _⟩ := (hOE _ _ _ _ _ _ h2).1
      rw [setM_other (hHne _ _ q1)]
    · rcases ex id3 o3 h3 with ⟨rfl, rfl⟩ | ⟨rfl, rfl⟩ | ⟨_, hne, h5⟩
      · rw [setM_other hidne] at hc; exact g4 _ _ hl hc
      · rw [setM_self] at hc
        exact (hOE _ _ _ _ _ _ h2).2 (hn.inj _ _ _ _ _ _ _ _ _ _ _ _ b' (hOE _ _ _ _ _ _ h2).1 hO hb (by simpa using hc))
      · rw [setM_other hne] at hc; exact g4 _ _ h5 hc
/-- a slice put back into the cell that leads to it: the cell owns it from then on -/
theorem Next.untake {C : Cx} {N : Nat} {K : Act → World → Prop} (id i j : Nat) {s a isz n : Nat} {rows rows' : List (List PV)} {r : List PV} {irows : List (List FV)} (hl : hlook H id = some (.refs s rows)) (hrow : rows[i]? = some r) (hcol : r[j]? = some (.sl a isz 0 n)) (ha : hlook H a = some (.flat isz irows)) (hn : irows.length = n)
    (hr : rows.set i (r.set j (.own isz irows)) = rows') (h : Next C N G ((id, some (.refs s rows')) :: (a, none) :: H) nx K) (hs : Nat.blt isz 1000000 = true := by rfl) : Next C N G H nx K := by
  have hs := blt_of hs
  subst hr; subst hn
  intro ac w hR
  obtain ⟨S, m, hm, hsl⟩ := hR.mem
  obtain ⟨ib, hn⟩ := hm.nst
  have hida : id ≠ a := fun e => by subst e; rw [hl] at ha; cases ha
  rcases hm.objs _ _ hl with ⟨q1, q2⟩ | ⟨b, c, e, k1, k2, k3⟩
  · subst q2; simp at hrow
  obtain ⟨u, hu, hu1, hrep⟩ := k3.2.2 i j r _ hrow hcol
  have ex : ∀ id2 o2, hlook ((id, some (Ob.refs s (rows.set i (r.set j (.own isz irows))))) :: (a, none) :: H) id2 = some o2 → (id2 = id ∧ o2 = .refs s (rows.set i (r.set j (.own isz irows)))) ∨ (id2 ≠ id ∧ id2 ≠ a ∧ hlook H id2 = some o2) := fun id2 o2 h2 => by
    rw [hlook_cons] at h2
    by_cases h3 : id = id2
    · rw [if_pos h3] at h2; cases h2; exact .inl ⟨h3.symm, rfl⟩
    · rw [if_neg h3, hlook_cons] at h2
      by_cases h4 : a = id2
      · rw [if_pos h4] at h2; cases h2
      · rw [if_neg h4] at h2; exact .inr ⟨fun e => h3 e.symm, fun e => h4 e.symm, h2⟩
  have exo : ∀ id2 o2, hlook ((id, some (Ob.refs s (rows.set i (r.set j (.own isz irows))))) :: (a, none) :: H) id2 = some o2 → id2 ≠ a ∧ ∃ o3, hlook H id2 = some o3 := fun id2 o2 h2 => by
    rcases ex id2 o2 h2 with ⟨rfl, _⟩ | ⟨_, h3, h4⟩
    · exact ⟨hida, _, hl⟩
    · exact ⟨h3, _, h4⟩
  have hOE : ∀ id2 s2 i2 j2 isz2 irows2, OwnE ((id, some (Ob.refs s (rows.set i (r.set j (.own isz irows))))) :: (a, none) :: H) id2 s2 i2 j2 isz2 irows2 → (id2 = id ∧ i2 = i ∧ j2 = j ∧ isz2 = isz ∧ irows2 = irows ∧ s2 = s) ∨ (OwnE H id2 s2 i2 j2 isz2 irows2 ∧ ¬ (id2 = id ∧ i2 = i ∧ j2 = j)) := fun id2 s2 i2 j2 isz2 irows2 h2 => by
    rcases own_set_other (H := H) hrow hl h2 (fun o hne h3 _ => by
      rw [hlook_cons] at h3
      by_cases h4 : a = id2
      · rw [if_pos h4] at h3; cases h3
      · rwa [if_neg h4] at h3) with ⟨q1, q2, q3, q4, q5⟩ | q
    · cases q4; exact .inl ⟨q1, q2, q3, rfl, rfl, q5⟩
    · exact .inr q
  obtain ⟨x, hx⟩ := (hm.objs _ _ ha).known
  have hin : InAt C S w isz irows u x := by
    generalize hnn : irows.length = n at hrep
    cases hrep with
    | sl0 _ _ q => exact .inl ⟨by rw [q] at hx; cases hx; rfl, rfl, List.eq_nil_of_length_eq_zero hnn⟩
    | sl _ _ _ _ b' cap q hrm hc hmx =>
      rw [q] at hx; cases hx
      obtain ⟨p1, p2, p3⟩ := hm.blk _ _ b' ha q
      rcases hm.objs _ _ ha with ⟨z1, _⟩ | ⟨b2, c2, e2, z1, z2, z3⟩
      · rw [q] at z1; cases z1
      · rw [q] at z1; cases z1
        obtain ⟨c3, e3, fr, y1, y2⟩ := hrm
        rw [z2] at y1; cases y1
        refine .inr (.inl ⟨b', c2, e2, cap, rfl, ?_, by omega, by omega, z2, by rw [y2, Nat.zero_add], z3, p1, p2, p3, hs⟩)
        rw [hnn]; simp
  let ibn : Nat → Nat → Nat → Option Nat := fun id2 i2 j2 => if id2 = id ∧ i2 = i ∧ j2 = j then x else ib id2 i2 j2
  have ibs : ibn id i j = x := by simp [ibn]
  have ibo : ∀ id2 i2 j2, ¬ (id2 = id ∧ i2 = i ∧ j2 = j) → ibn id2 i2 j2 = ib id2 i2 j2 := fun id2 i2 j2 h => by simp only [ibn, if_neg h]
  refine h ac w ⟨hR.defers, hR.size, S, m, hm.step (Le.refl _ _ _) ⟨rfl, Nat.le_refl _⟩ rfl rfl (fun _ _ => rfl) (Nat.le_refl _) (fun _ _ _ => rfl) (fun _ h => .inl h) (fun id2 o2 h2 => ?_) (fun id2 o2 b2 h2 hb2 => ?_) (fun i1 i2 o1 o2 b2 h1 h2 h3 h4 => ?_) hm.stab hm.fresh ⟨ibn, ?_⟩, hsl⟩
  · rcases ex id2 o2 h2 with ⟨rfl, rfl⟩ | ⟨_, _, h3⟩
    · exact .inr ⟨b, c, e, k1, k2, k3.setCell hrow hcol (fun u2 _ _ => .own u2 isz irows)⟩
    · exact hm.objs _ _ h3
  · obtain ⟨_, o3, h3⟩ := exo id2 o2 h2; exact hm.blk _ _ b2 h3 hb2
  · obtain ⟨_, o3, h5⟩ := exo i1 o1 h1
    obtain ⟨_, o4, h6⟩ := exo i2 o2 h2
    exact hm.inj _ _ _ _ b2 h5 h6 h3 h4
  · refine ⟨fun id2 s2 i2 j2 isz2 irows2 hO => ?_, fun id2 s2 i2 j2 isz2 irows2 b' hO hb id3 o3 h3 hc => ?_, fun id2 s2 i2 j2 isz2 irows2 id3 s3 i3 j3 isz3 irows3 b' hO hO2 h1 h2 => ?_⟩
    · rcases hOE _ _ _ _ _ _ hO with ⟨rfl, rfl, rfl, rfl, rfl, rfl⟩ | ⟨q1, q2⟩
      · rw [ibs]; exact ⟨b, c, e, u, k1, k2, hu, hin⟩
      · rw [ibo _ _ _ q2]; exact hn.at_ _ _ _ _ _ _ q1
    · obtain ⟨hne, o4, h4⟩ := exo id3 o3 h3
      rcases hOE _ _ _ _ _ _ hO with ⟨rfl, rfl, rfl, rfl, rfl, rfl⟩ | ⟨q1, q2⟩
      · rw [ibs] at hb; subst hb
        exact hne (hm.inj _ _ _ _ b' h4 ha hc hx)
      · rw [ibo _ _ _ q2] at hb; exact hn.apart _ _ _ _ _ _ b' q1 hb _ _ h4 hc
    · rcases hOE _ _ _ _ _ _ hO with ⟨rfl, rfl, rfl, rfl, rfl, rfl⟩ | ⟨q1, q2⟩ <;> rcases hOE _ _ _ _ _ _ hO2 with ⟨rfl, rfl, rfl, rfl, rfl, rfl⟩ | ⟨q3, q4⟩
      · exact ⟨rfl, rfl, rfl⟩
      · rw [ibs] at h1; subst h1; rw [ibo _ _ _ q4] at h2
        exact absurd hx (hn.apart _ _ _ _ _ _ b' q3 h2 _ _ ha)
      · rw [ibs] at h2; subst h2; rw [ibo _ _ _ q2] at h1
        exact absurd hx (hn.apart _ _ _ _ _ _ b' q1 h1 _ _ ha)
      · rw [ibo _ _ _ q2] at h1; rw [ibo _ _ _ q4] at h2
        exact hn.inj _ _ _ _ _ _ _ _ _ _ _ _ b' q1 q3 h1 h2
/-- what a cell owns, read as frozen -/
theorem InAt.frep {C : Cx} {S S' : Nat → Prop} {w : World} {isz : Nat} {irows : List (List FV)} {u : Value} {x : Option Nat} (hs : isz < 1000000) (h : InAt C S w isz irows u x) (hS : ∀ b, S b → S' b) (hx : ∀ b, x = some b → S' b) : FRep w S' u (.vals isz irows) := by
  rcases h with ⟨q1, q2, q3⟩ | ⟨b', c', e', cap, q1, q2, q3, q4, q5, q6, q7, q8, q9, q10, q11⟩ | ⟨_, _, _, _, k, _, _, q2, _⟩ | ⟨_, q2, _⟩
  · subst q2; subst q3; exact .nil _ _ _
  rotate_left
  · omega
  · omega
  · subst q2
    have hU : ∀ i j : Nat, ∃ u, ∀ r f, irows[i]? = some r → r[j]? = some f → c'[i * isz + j]? = some u ∧ u.oneCell' = true ∧ FRep w S u f := fun i j => by
      cases hi : irows[i]? with
      | none => exact ⟨undef, fun _ _ h => by cases h⟩
      | some r =>
        cases hj : r[j]? with
        | none => exact ⟨undef, fun r' f h1 h2 => by cases h1; rw [hj] at h2; cases h2⟩
        | some f =>
          obtain ⟨u, hu, ho1, hp⟩ := q7.2.2 i j r f hi hj
          exact ⟨u, fun r' f' h1 h2 => by cases h1; rw [hj] at h2; cases h2; exact ⟨hu, ho1, hp⟩⟩
    have hU' : ∃ U : Nat → Nat → Value, ∀ i j r f, irows[i]? = some r → r[j]? = some f → c'[i * isz + j]? = some (U i j) ∧ (U i j).oneCell' = true ∧ FRep w S (U i j) f :=
      ⟨fun i j => Classical.choose (hU i j), fun i j r f h1 h2 => Classical.choose_spec (hU i j) r f h1 h2⟩
    obtain ⟨U, hU⟩ := hU'
    refine .vals b' 0 cap isz irows U (hx b' q1) q3 q7.2.1 (fun i j r f h1 h2 => ⟨?_, (hU i j r f h1 h2).2.1⟩) (fun i j r f h1 h2 => (hU i j r f h1 h2).2.2.mono hS fun _ _ => rfl)
    have := (hU i j r f h1 h2).1
    simp only [World.cell?]
    rw [Nat.zero_add, ← this]
    simp only [*]
    simp
/-- the slices that an object's cells own, and they alone, taken as frozen -/
theorem Next.freezeOwn {C : Cx} {N : Nat} {K : Act → World → Prop} (id : Nat) {sz : Nat} {irs : List (List (List FV))} {rows : List (List PV)} (hl : hlook H id = some (.refs 1 rows)) (hrows : rows = irs.map fun r => [PV.own sz r])
    (h : Next C N G ((id, some (.flat 1 (irs.map fun r => [FV.vals sz r]))) :: H) nx K) (hs : Nat.blt sz 1000000 = true := by rfl) : Next C N G H nx K := by
  have hs := blt_of hs
  subst hrows
  intro ac w hR
  obtain ⟨S, m, hm, hsl⟩ := hR.mem
  obtain ⟨ib, hn⟩ := hm.nst
  have hOi : ∀ i (r : List (List FV)), irs[i]? = some r → OwnE H id 1 i 0 sz r := fun i r hr => ⟨_, [.own sz r], hl, by rw [List.getElem?_map, hr]; rfl, rfl⟩
  let S' : Nat → Prop := fun b => S b ∨ ∃ i r, irs[i]? = some r ∧ ib id i 0 = some b
  have hS : ∀ b, S b → S' b := fun b h => .inl h
  have hinner : ∀ i r b, irs[i]? = some r → ib id i 0 = some b → ¬ S b ∧ b < w.heap.size ∧ (C.w0.heap.size ≤ b ∨ C.own0 b) := fun i r b hr hb => by
    obtain ⟨_, _, _, _, _, _, _, k4⟩ := hn.at_ _ _ _ _ _ _ (hOi i r hr)
    exact k4.blk hb
  have hle : Le S m w S' m w := ⟨hS, fun _ _ => rfl, fun _ _ h => h, fun _ _ h => h⟩
  have ex : ∀ id2 o2, hlook ((id, some (Ob.flat 1 (irs.map fun r => [FV.vals sz r]))) :: H) id2 = some o2 → (id2 = id ∧ o2 = .flat 1 (irs.map fun r => [FV.vals sz r])) ∨ (id2 ≠ id ∧ hlook H id2 = some o2) := fun id2 o2 h2 => by
    rw [hlook_cons] at h2
    by_cases h3 : id = id2
    · rw [if_pos h3] at h2; cases h2; exact .inl ⟨h3.symm, rfl⟩
    · rw [if_neg h3] at h2; exact .inr ⟨fun e => h3 e.symm, h2⟩
  have exo : ∀ id2 o2, hlook ((id, some (Ob.flat 1 (irs.map fun r => [FV.vals sz r]))) :: H) id2 = some o2 → ∃ o3, hlook H id2 = some o3 := fun id2 o2 h2 => by
    rcases ex id2 o2 h2 with ⟨rfl, _⟩ | ⟨_, h4⟩
    · exact ⟨_, hl⟩
    · exact ⟨_, h4⟩
  have hOE : ∀ id2 s2 i2 j2 isz2 irows2, OwnE ((id, some (Ob.flat 1 (irs.map fun r => [FV.vals sz r]))) :: H) id2 s2 i2 j2 isz2 irows2 → id2 ≠ id ∧ OwnE H id2 s2 i2 j2 isz2 irows2 := fun id2 s2 i2 j2 isz2 irows2 ⟨rows2, r2, h1, h2, h3⟩ => by
    rcases ex id2 _ h1 with ⟨_, q⟩ | ⟨q1, q2⟩
    · cases q
    · exact ⟨q1, _, _, q2, h2, h3⟩
  refine h ac w ⟨hR.defers, hR.size, S', m, hm.step hle ⟨rfl, Nat.le_refl _⟩ rfl rfl (fun _ _ => rfl) (Nat.le_refl _) (fun _ _ _ => rfl) (fun b hb => ?_) (fun id2 o2 h2 => ?_) (fun id2 o2 b2 h2 hb2 => ?_) (fun i1 i2 o1 o2 b2 h1 h2 h3 h4 => ?_) (fun b hb => ?_) hm.fresh ?_, fun t q hq => (hsl t q hq).mono hle⟩
  · rcases hb with hb | ⟨i, r, hr, hb⟩
    · exact .inl hb
    · rcases (hinner i r b hr hb).2.2 with h | h
      · exact .inr (.inr h)
      · exact .inr (.inl h)
  · rcases ex id2 o2 h2 with ⟨rfl, rfl⟩ | ⟨_, h3⟩
    · rcases hm.objs _ _ hl with ⟨q1, q2⟩ | ⟨b, c, e, k1, k2, k3⟩
      · exact .inl ⟨q1, by cases irs <;> simp at q2 ⊢⟩
      · refine .inr ⟨b, c, e, k1, k2, by simpa using k3.1, fun r hr => ?_, fun i j r p hi hj => ?_⟩
        · obtain ⟨r0, _, rfl⟩ := List.mem_map.1 hr; rfl
        · rw [List.getElem?_map] at hi
          obtain ⟨r0, h0, rfl⟩ := Option.map_eq_some_iff.1 hi
          match j with
          | 0 =>
            simp at hj; subst hj
            obtain ⟨u, hu, hu1, _⟩ := k3.2.2 i 0 [.own sz r0] _ (by rw [List.getElem?_map, h0]; rfl) rfl
            obtain ⟨b2, c2, e2, u2, z1, z2, z3, z4⟩ := hn.at_ _ _ _ _ _ _ (hOi i r0 h0)
            rw [k1] at z1; cases z1
            rw [k2] at z2; cases z2
            rw [hu] at z3; cases z3
            exact ⟨u, hu, hu1, InAt.frep hs z4 hS fun b hb => .inr ⟨i, r0, h0, hb⟩⟩
          | j + 1 => simp at hj
    · exact (hm.objs _ _ h3).mono hle (fun _ _ => rfl)
  · obtain ⟨o3, h3⟩ := exo id2 o2 h2
    obtain ⟨q1, q2, q3⟩ := hm.blk _ _ b2 h3 hb2
    refine ⟨?_, q2, q3⟩
    rintro (h | ⟨i, r, hr, hb⟩)
    · exact q1 h
    · exact hn.apart _ _ _ _ _ _ b2 (hOi i r hr) hb _ _ h3 hb2
  · obtain ⟨o3, h5⟩ := exo i1 o1 h1
    obtain ⟨o4, h6⟩ := exo i2 o2 h2
    exact hm.inj _ _ _ _ b2 h5 h6 h3 h4
  · rcases hb with hb | ⟨i, r, hr, hb⟩
    · exact hm.stab b hb
    · exact (hinner i r b hr hb).2.1
  · refine ⟨ib, hn.keep (fun i => i) (fun _ _ _ _ _ _ h => ⟨(hOE _ _ _ _ _ _ h).2, rfl⟩) (fun _ _ _ _ _ _ _ _ _ _ _ _ _ _ h => h) hS (fun _ _ => rfl) (fun _ _ _ _ _ _ _ c e _ _ _ k2 k3 => ⟨c, e, k2, k3⟩) (fun id2 s2 i2 j2 isz2 irows2 b' h2 hb g1 g2 g3 g4 => ⟨rfl, ?_, g2, g3, fun id3 o3 h3 => ?_⟩)⟩
    · rintro (h | ⟨i, r, hr, hb2⟩)
      · exact g1 h
      · obtain ⟨q1, q2⟩ := hOE _ _ _ _ _ _ h2
        exact q1 (hn.inj _ _ _ _ _ _ _ _ _ _ _ _ b' q2 (hOi i r hr) hb hb2).1
    · obtain ⟨o4, h4⟩ := exo id3 o3 h3; exact g4 _ _ h4
/-- fresh cells that hold nil slices: each owns an empty one -/
theorem Next.toOwn {C : Cx} {N : Nat} {K : Act → World → Prop} (id sz n : Nat) (hl : hlook H id = some (.flat 1 (List.replicate n [.lit (.slice none 0 0)]))) (h : Next C N G ((id, some (.refs 1 (List.replicate n [.own sz []]))) :: H) nx K) : Next C N G H nx K := by
  intro ac w hR
  obtain ⟨S, m, hm, hsl⟩ := hR.mem
  obtain ⟨ib, hn⟩ := hm.nst
  have ex : ∀ id2 o2, hlook ((id, some (Ob.refs 1 (List.replicate n [.own sz []]))) :: H) id2 = some o2 → (id2 = id ∧ o2 = .refs 1 (List.replicate n [.own sz []])) ∨ (id2 ≠ id ∧ hlook H id2 = some o2) := fun id2 o2 h2 => by
    rw [hlook_cons] at h2
    by_cases h3 : id = id2
    · rw [if_pos h3] at h2; cases h2; exact .inl ⟨h3.symm, rfl⟩
    · rw [if_neg h3] at h2; exact .inr ⟨fun e => h3 e.symm, h2⟩
  have exo : ∀ id2 o2, hlook ((id, some (Ob.refs 1 (List.replicate n [.own sz []]))) :: H) id2 = some o2 → ∃ o3, hlook H id2 = some o3 := fun id2 o2 h2 => by
    rcases ex id2 o2 h2 with ⟨rfl, _⟩ | ⟨_, h4⟩
    · exact ⟨_, hl⟩
    · exact ⟨_, h4⟩
  have hOE : ∀ id2 s2 i2 j2 isz2 irows2, OwnE ((id, some (Ob.refs 1 (List.replicate n [.own sz []]))) :: H) id2 s2 i2 j2 isz2 irows2 → (id2 = id ∧ s2 = 1 ∧ i2 < n ∧ j2 = 0 ∧ isz2 = sz ∧ irows2 = []) ∨ (id2 ≠ id ∧ OwnE H id2 s2 i2 j2 isz2 irows2) := fun id2 s2 i2 j2 isz2 irows2 ⟨rows2, r2, h1, h2, h3⟩ => by
    rcases ex id2 _ h1 with ⟨q1, q⟩ | ⟨q1, q2⟩
    · cases q
      rw [List.getElem?_replicate] at h2
      split at h2
      · cases h2
        match j2, h3 with
        | 0, h3 => simp at h3; exact .inl ⟨q1, rfl, by assumption, rfl, h3.1.symm, h3.2⟩
        | j + 1, h3 => simp at h3
      · cases h2
    · exact .inr ⟨q1, _, _, q2, h2, h3⟩
  let ibn : Nat → Nat → Nat → Option Nat := fun id2 i2 j2 => if id2 = id then none else ib id2 i2 j2
  have ibs : ∀ i j, ibn id i j = none := fun i j => by simp [ibn]
  have ibo : ∀ id2 i2 j2, id2 ≠ id → ibn id2 i2 j2 = ib id2 i2 j2 := fun id2 i2 j2 h => by simp only [ibn, if_neg h]
  refine h ac w ⟨hR.defers, hR.size, S, m, hm.step (Le.refl _ _ _) ⟨rfl, Nat.le_refl _⟩ rfl rfl (fun _ _ => rfl) (Nat.le_refl _) (fun _ _ _ => rfl) (fun _ h => .inl h) (fun id2 o2 h2 => ?_) (fun id2 o2 b2 h2 hb2 => ?_) (fun i1 i2 o1 o2 b2 h1 h2 h3 h4 => ?_) hm.stab hm.fresh ⟨ibn, ?_⟩, hsl⟩
  · rcases ex id2 o2 h2 with ⟨rfl, rfl⟩ | ⟨_, h3⟩
    · rcases hm.objs _ _ hl with ⟨q1, q2⟩ | ⟨b, c, e, k1, k2, k3⟩
      · refine .inl ⟨q1, ?_⟩
        have : n = 0 := by simpa using congrArg List.length q2
        subst this; rfl
      · refine .inr ⟨b, c, e, k1, k2, by simpa using k3.1, fun r hr => ?_, fun i j r p hi hj => ?_⟩
        · rw [List.eq_of_mem_replicate hr]; rfl
        · rw [List.getElem?_replicate] at hi
          split at hi
          · rename_i hin
            cases hi
            match j, hj with
            | 0, hj =>
              simp at hj; subst hj
              obtain ⟨u, hu, hu1, _⟩ := k3.2.2 i 0 [.lit (.slice none 0 0)] _ (by rw [List.getElem?_replicate, if_pos hin]) rfl
              exact ⟨u, hu, hu1, .own u sz []⟩
            | j + 1, hj => simp at hj
          · cases hi
    · exact hm.objs _ _ h3
  · obtain ⟨o3, h3⟩ := exo id2 o2 h2; exact hm.blk _ _ b2 h3 hb2
  · obtain ⟨o3, h5⟩ := exo i1 o1 h1
    obtain ⟨o4, h6⟩ := exo i2 o2 h2
    exact hm.inj _ _ _ _ b2 h5 h6 h3 h4
  · refine ⟨fun id2 s2 i2 j2 isz2 irows2 hO => ?_, fun id2 s2 i2 j2 isz2 irows2 b' hO hb id3 o3 h3 hc => ?_, fun id2 s2 i2 j2 isz2 irows2 id3 s3 i3 j3 isz3 irows3 b' hO hO2 h1 h2 => ?_⟩
    · rcases hOE _ _ _ _ _ _ hO with ⟨rfl, rfl, hi, rfl, rfl, rfl⟩ | ⟨q1, q2⟩
      · rw [ibs]
        rcases hm.objs _ _ hl with ⟨q1, q2⟩ | ⟨b, c, e, k1, k2, k3⟩
        · have : n = 0 := by simpa using congrArg List.length q2
          omega
        · obtain ⟨u, hu, hu1, hr⟩ := k3.2.2 i2 0 [.lit (.slice none 0 0)] _ (by rw [List.getElem?_replicate, if_pos hi]) rfl
          cases hr
          exact ⟨b, c, e, _, k1, k2, hu, .inl ⟨rfl, rfl, rfl⟩⟩
      · rw [ibo _ _ _ q1]; exact hn.at_ _ _ _ _ _ _ q2
    · obtain ⟨o4, h4⟩ := exo id3 o3 h3
      rcases hOE _ _ _ _ _ _ hO with ⟨rfl, rfl, hi, rfl, rfl, rfl⟩ | ⟨q1, q2⟩
      · rw [ibs] at hb; cases hb
      · rw [ibo _ _ _ q1] at hb; exact hn.apart _ _ _ _ _ _ b' q2 hb _ _ h4 hc
    · rcases hOE _ _ _ _ _ _ hO with ⟨rfl, rfl, hi, rfl, rfl, rfl⟩ | ⟨q1, q2⟩
      · rw [ibs] at h1; cases h1
      · rcases hOE _ _ _ _ _ _ hO2 with ⟨rfl, rfl, hi, rfl, rfl, rfl⟩ | ⟨q3, q4⟩
        · rw [ibs] at h2; cases h2
        · rw [ibo _ _ _ q1] at h1; rw [ibo _ _ _ q3] at h2
          exact hn.inj _ _ _ _ _ _ _ _ _ _ _ _ b' q2 q4 h1 h2
theorem ext_app (A H : Hp) : Ext (A ++ H) H (A.map (·.1)) := by
  induction A with
  | nil => exact .refl _
  | cons a A ih => obtain ⟨i, o⟩ := a; exact .cons i o _ _ _ ih
theorem ext_call {L' L : List Nat} {Hout H : Hp} : Ext (callH L' Hout L H) H ((Hout.map (renE L') ++ L.map fun i => (i, (none : Option Ob))).map (·.1)) := ext_app _ _
end
end Go.RT
