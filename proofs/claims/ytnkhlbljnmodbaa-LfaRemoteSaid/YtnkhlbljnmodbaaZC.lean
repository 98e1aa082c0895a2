/- A part of the proof: RT30, RT31, RT32, RT33, RTZ, TabU, G0, HP0, U1, GP1, U2, U3, LayU, GP2, SRT, SRI, GP3, HP1, U4, U5, HP2, U6, U7, U8, U9. -/
import Derived.Test.YtnkhlbljnmodbaaZB
import Derived.Test.YtnkhlbljnmodbaaChecked
import Derived.Eval
import Derived.Shelf.Lays
import Derived.Ground.NamesProg
import Derived.Shelf.SlLaysF
import Derived.Ground.SlsfProg
import Derived.Shelf.SlSortCmp.NoneTotal
import Derived.Shelf.Sort.Plain
import Derived.Shelf.Slices.In.SortNone
set_option linter.all false
/- The engine, part 30: a region that draws, order by order. -/
namespace Go.RT
section
variable {P : Program} {ops : Array Oper} {N : Nat} {C : Cx} {Q : Exit → Act → World → Prop} {X : Array Bool} {G : Env} {H : Hp} {nx : Nat}
/-- from any point of a region that draws -/
def AnyN (P : Program) (ops : Array Oper) (N : Nat) (C : Cx) (Q : Exit → Act → World → Prop) (X : Array Bool) (G : Env) (H : Hp) (nx : Nat) : Prop :=
  ∀ fuel a w, (X.toList.filter (!·)).length ≤ fuel → Rel C N G H nx a w → wpAny P .any ops Q fuel X a w
def StepN (P : Program) (ops : Array Oper) (N : Nat) (C : Cx) (Q : Exit → Act → World → Prop) (X : Array Bool) (G : Env) (H : Hp) (nx : Nat) (i : Nat) : Prop :=
  ∃ o, ops[i]? = some o ∧ o.guard = none ∧ (match o.dst with | some d => Nat.blt d N | none => true) = true ∧ Nat.blt ((X.setIfInBounds i true).toList.filter (!·)).length (X.toList.filter (!·)).length = true ∧
    ∃ p H1 nx1, OpS P o true G H nx p H1 nx1 ∧ AnyN P ops N C Q (X.setIfInBounds i true) (gput G o.dst p) H1 nx1
theorem AnyN.nil (hr : Region.ready .any ops X = []) (h : Next C N G H nx (Q .normal)) : AnyN P ops N C Q X G H nx := fun fuel a w _ hR => by
  cases fuel with
  | zero => exact ⟨hr, h a w hR⟩
  | succ fuel => exact ⟨fun _ => h a w hR, fun i hi => by rw [hr] at hi; cases hi⟩
theorem AnyN.step {L : List Nat} (hr : Region.ready .any ops X = L) (hne : L ≠ []) (h : ∀ i ∈ L, StepN P ops N C Q X G H nx i) : AnyN P ops N C Q X G H nx := fun fuel a w hf hR => by
  cases fuel with
  | zero =>
    exfalso
    cases L with
    | nil => exact hne rfl
    | cons i L =>
      obtain ⟨o, _, _, _, h4, _⟩ := h i (by simp)
      have := Nat.le_of_ble_eq_true h4
      omega
  | succ fuel =>
    refine ⟨fun e => absurd (hr.symm.trans e) hne, fun i hi => ?_⟩
    obtain ⟨o, h1, h2, h3, h4, p, H1, nx1, h5, h6⟩ := h i (by rw [← hr]; exact hi)
    have h4' := Nat.le_of_ble_eq_true h4
    obtain ⟨S, m, hm, hsl⟩ := hR.mem
    unfold wpOp
    simp only [h1]
    rw [if_pos (by simp [Region.wanted, h2])]
    refine .inl (h5.run C S m a w hm rfl (fun t q _ hq => hsl t q hq) _ _ fun v w' S' m' hm' hle hv => ?_)
    refine h6 fuel _ _ (by omega) ⟨by rw [put_defers]; exact hR.defers, by rw [put_size]; exact hR.size, S', m', hm', fun t q hq => ?_⟩
    rw [look_gput] at hq
    by_cases hd : o.dst = some t
    · rw [if_pos hd] at hq; cases hq
      rw [hd]
      have hlt : t < N := by rw [hd] at h3; exact Nat.le_of_ble_eq_true h3
      exact ⟨v, put_self (by rw [hR.size]; exact hlt), hv⟩
    · rw [if_neg hd] at hq
      obtain ⟨u, hu, hr2⟩ := hsl t q hq
      exact ⟨u, (put_at hd).trans hu, hr2.mono hle⟩
theorem StepN.mk {i : Nat} {o : Oper} {p : PV} {H1 : Hp} {nx1 : Nat} (h1 : ops[i]? = some o) (h5 : OpS P o true G H nx p H1 nx1) (h2 : o.guard = none) (h3 : (match o.dst with | some d => Nat.blt d N | none => true) = true) (h4 : Nat.blt ((X.setIfInBounds i true).toList.filter (!·)).length (X.toList.filter (!·)).length = true)
    (h6 : AnyN P ops N C Q (X.setIfInBounds i true) (gput G o.dst p) H1 nx1) : StepN P ops N C Q X G H nx i := ⟨o, h1, h2, h3, h4, p, H1, nx1, h5, h6⟩
theorem AnyN.one (i : Nat) (hr : Region.ready .any ops X = [i]) (h : StepN P ops N C Q X G H nx i) : AnyN P ops N C Q X G H nx := .step hr (by simp) fun j hj => by simp at hj; subst hj; exact h
theorem AnyN.two (i j : Nat) (hr : Region.ready .any ops X = [i, j]) (h : StepN P ops N C Q X G H nx i) (h2 : StepN P ops N C Q X G H nx j) : AnyN P ops N C Q X G H nx := .step hr (by simp) fun k hk => by
  simp at hk; rcases hk with rfl | rfl
  · exact h
  · exact h2
theorem draw_tree {id : Nat} {l : List Oper} (hm : P.follows .mixedOrders = true) (h : AnyN P l.toArray N C Q (Array.replicate l.toArray.size false) G H nx) : Next C N G H nx ((Code.region id l.toArray true).wp P Q) := by
  intro a w hR
  obtain ⟨S, m, hmem, hslots⟩ := hR.mem
  have hle : Le S m w S m { w with drawn := w.drawn + 1 } := ⟨fun _ h => h, fun _ _ => rfl, fun _ _ h => h, fun _ _ h => h⟩
  exact wp_region_any hm (h _ _ _ (by simp) ⟨hR.defers, hR.size, S, m, hmem.drew, fun t q hq => (hslots t q hq).mono hle⟩)
theorem draw_tree2 {id : Nat} {l : List Oper} (G1 : Env) (H1 : Hp) (nx1 : Nat) (hm : P.follows .mixedOrders = true) (h : Next C N G1 H1 nx1 (Q .normal) → AnyN P l.toArray N C Q (Array.replicate l.toArray.size false) G H nx) (hK : Next C N G1 H1 nx1 (Q .normal)) : Next C N G H nx ((Code.region id l.toArray true).wp P Q) := draw_tree hm (h hK)
end
end Go.RT
/- The engine, part 31: rows of slices that their cells own. -/
namespace Go.RT
def ownL (sz : Nat) (irs : List (List (List FV))) : List (List PV) := irs.map fun r => [PV.own sz r]
def fzL (sz : Nat) (irs : List (List (List FV))) : List (List FV) := irs.map fun r => [FV.vals sz r]
theorem renO_own (L : List Nat) (sz : Nat) (irs : List (List (List FV))) : renO L (.refs 1 (ownL sz irs)) = .refs 1 (ownL sz irs) := by
  simp only [renO, ownL, List.map_map]
  congr 1
theorem ltO_own (n sz : Nat) (irs : List (List (List FV))) : ltO n (.refs 1 (ownL sz irs)) := fun r hr => by
  obtain ⟨r0, _, rfl⟩ := List.mem_map.1 hr; rfl
theorem ent_own {L F : List Nat} {H : Hp} {id sz : Nat} {irs : List (List (List FV))} (h1 : Nat.blt id L.length = true) (h2 : F.contains (renI L id) = false) (h3 : hlook H (renI L id) = some (.refs 1 (ownL sz irs))) : Nat.blt id L.length = true ∧ F.contains (renI L id) = false ∧ EntO L F H (renI L id) (.refs 1 (ownL sz irs)) :=
  ent_same h1 h2 (by rw [renO_own]; exact h3) (ltO_own _ _ _)
theorem ownL_set (sz : Nat) (irs : List (List (List FV))) (i : Nat) (r : List (List FV)) : (ownL sz irs).set i [PV.own sz r] = ownL sz (irs.set i r) := List.map_set.symm
theorem ownL_get {sz : Nat} {irs : List (List (List FV))} {i : Nat} {r : List (List FV)} (h : irs[i]? = some r) : (ownL sz irs)[i]? = some [PV.own sz r] := by unfold ownL; rw [List.getElem?_map, h]; rfl
theorem ownL_rep (sz n : Nat) : List.replicate n [PV.own sz []] = ownL sz (List.replicate n []) := by unfold ownL; rw [List.map_replicate]
theorem fzL_get {sz : Nat} {irs : List (List (List FV))} {i : Nat} {r : List (List FV)} (h : irs[i]? = some r) : (fzL sz irs)[i]? = some [FV.vals sz r] := by unfold fzL; rw [List.getElem?_map, h]; rfl
theorem set_get {α : Type} (l : List α) (i : Nat) (x : α) (h : i < l.length) : (l.set i x)[i]? = some x := by rw [List.getElem?_set]; simp [h]
theorem ownL_len (sz : Nat) (irs : List (List (List FV))) : (ownL sz irs).length = irs.length := by simp [ownL]
end Go.RT
namespace Go.RT
theorem own_back {sz : Nat} {irs : List (List (List FV))} {v : Nat} {x y : List PV} {r : List (List FV)} : (((ownL sz irs).set v x).set v y).set v [PV.own sz r] = ownL sz (irs.set v r) := by rw [List.set_set, List.set_set, ownL_set]
theorem fzL_len (sz : Nat) (irs : List (List (List FV))) : (fzL sz irs).length = irs.length := by simp [fzL]
theorem take_all0 {α : Type} {l : List α} {k : Nat} (h : l.length = k) : (l.drop 0).take k = l := by subst h; simp
end Go.RT
/- The engine, part 32: a frozen slice clipped: 's[:len(s):len(s)]'. -/
namespace Go.RT
section
variable {P : Program} {o : Oper} {g : Bool} {G : Env} {x : Operand} {t : TypeId}
theorem op_slice_clip {e : TypeId} {sz by_ h mx : Nat} {z : Value} {rows : List (List FV)} {oh om : Operand} [hd : TyD P t (.slice e)] [hn : TyN P e sz by_ z] (ho : o.op = .slice t x none (some oh) (some om)) (hx : Opd G g x (.fz (.vals sz rows))) (hhi : Bnd G g (some oh) rows.length h) (hmx : Bnd G g (some om) h mx)
    (hb : g = true → h = rows.length ∧ mx = rows.length) : OpP P o g G (.fz (.vals sz rows)) :=
  .of fun S m a w hg ha => by
    have h1 := (hx.rep hg (by simp [ho, Op.operands]) ha).frz
    obtain ⟨rfl, rfl⟩ := hb hg
    have b2 := hhi.val (o := o) (a := a) (w := w) (S := S) (m := m) hg (fun x hx => by simp [ho, Op.operands, hx]) ha
    have b3 := hmx.val (o := o) (a := a) (w := w) (S := S) (m := m) hg (fun x hx => by simp [ho, Op.operands, hx]) ha
    have run : ∀ (ad : Option Addr) (cap : Nat), rows.length ≤ cap → (Instr.sliceAt t (.slice ad rows.length cap) none (some (a.eval oh)) (some (a.eval om))).run P w = .ok (.slice (if rows.length = 0 then ad else ad.map (·.add (0 * sz))) (rows.length - 0) (rows.length - 0)) w := fun ad cap hc => by
      have e1 : (Instr.sliceBounds true rows.length cap none (some (a.eval oh)) (some (a.eval om))).run P w = .ok (0, rows.length, rows.length) w := by
        rcases b2 with ⟨c2, _⟩ | ⟨k2, c2⟩
        · simp at c2
        rcases b3 with ⟨c3, _⟩ | ⟨k3, c3⟩
        · simp at c3
        rw [Option.map_some] at c2 c3
        rw [c2, c3]; simp [Instr.sliceBounds, Instr.sliceBound, asIntOf, hc]
      simp [Instr.sliceAt, Instr.slice, run_underlying hd.h, e1, run_size hn]
    generalize hv : a.eval x = v at h1
    cases h1 with
    | nil =>
      rename_i a0 cap0
      have := run a0 cap0 (Nat.zero_le _)
      simp only [List.length_nil, if_pos rfl] at this
      exact ⟨_, by simp only [execOp, ho, hv, Option.map_some, Option.map_none, Sem.run_bind, this, Result.andThen_ok, Sem.run_pure]; rfl, .fz _ _ (.nil _ _ _)⟩
    | vals b off cap _ _ U hS hcap hsz hU hR =>
      have := run (some ⟨b, off, none⟩) cap hcap
      refine ⟨_, by simp only [execOp, ho, hv, Option.map_some, Option.map_none, Sem.run_bind, this, Result.andThen_ok, Sem.run_pure]; rfl, .fz _ _ ?_⟩
      have e : (if rows.length = 0 then some (⟨b, off, none⟩ : Addr) else some ((⟨b, off, none⟩ : Addr).add (0 * sz))) = some ⟨b, off, none⟩ := by
        split
        · rfl
        · simp [add_none]
      rw [e, Nat.sub_zero]
      exact .vals b off _ sz rows U hS (Nat.le_refl _) hsz hU hR
end
end Go.RT
/- The engine, part 33: a region that draws, where only the order of its effects is gone through. -/
namespace Go.RT
section
variable {P : Program} {ops : Array Oper} {N : Nat} {C : Cx} {Q : Exit → Act → World → Prop}
/-- what is asked of the region: no guards; slots written once; who reads a slot waits for it; edges lead back -/
def yOK (ops : Array Oper) (N : Nat) : Bool :=
  (List.range ops.size).all fun i => match ops[i]? with
    | none => true
    | some o => o.guard.isNone && (match o.dst with | some d => decide (d < N) | none => true) && (o.after.all fun e => !Region.binds .any e || decide (e.on < i)) &&
      (List.range ops.size).all fun j => match ops[j]? with
        | none => true
        | some oj => match oj.dst with
          | none => true
          | some d => (!decide (o.dst = some d) || decide (j = i)) && (!(opTmps o).contains d || o.after.any fun e => Region.binds .any e && decide (e.on = j))
structure YOk (ops : Array Oper) (N : Nat) : Prop where
  grd : ∀ (i : Nat) (o : Oper), ops[i]? = some o → o.guard = none
  dst : ∀ (i : Nat) (o : Oper) (d : Tmp), ops[i]? = some o → o.dst = some d → d < N
  back : ∀ (i : Nat) (o : Oper) (e : Edge), ops[i]? = some o → e ∈ o.after → Region.binds .any e = true → e.on < i
  once : ∀ (i j : Nat) (d : Tmp), dstOf ops i = some d → dstOf ops j = some d → i = j
  read : ∀ (i j : Nat) (o : Oper) (d : Tmp), ops[i]? = some o → dstOf ops j = some d → d ∈ opTmps o → ∃ e ∈ o.after, Region.binds .any e = true ∧ e.on = j
theorem yOK_spec (h : yOK ops N = true) : YOk ops N := by
  have hj : ∀ j o, ops[j]? = some o → _ := fun j o ho => by
    have := List.all_eq_true.1 h j (List.mem_range.2 (Array.getElem?_eq_some_iff.1 ho).1)
    rw [ho] at this
    exact this
  simp only [Bool.and_eq_true, Array.all_eq_true_iff_forall_mem, Bool.or_eq_true, Bool.not_eq_true', decide_eq_true_eq, decide_eq_false_iff_not, List.all_eq_true, List.mem_range] at hj
  have hd : ∀ {j : Nat} {d : Tmp}, dstOf ops j = some d → ∃ oj, ops[j]? = some oj ∧ oj.dst = some d ∧ j < ops.size := fun {j d} h => by
    unfold dstOf at h
    obtain ⟨oj, h1, h2⟩ := Option.bind_eq_some_iff.1 h
    exact ⟨oj, h1, h2, (Array.getElem?_eq_some_iff.1 h1).1⟩
  refine ⟨fun j o ho => ?_, fun j o d ho hd => ?_, fun j o e ho he hb => ?_, fun i j d h1 h2 => ?_, fun i j o d ho h1 h2 => ?_⟩
  · exact Option.isNone_iff_eq_none.1 (hj j o ho).1.1.1
  · have := (hj j o ho).1.1.2
    rw [hd] at this
    simpa using this
  · rcases (hj j o ho).1.2 e he with h | h
    · rw [hb] at h; cases h
    · exact h
  · obtain ⟨oi, a1, a2, a3⟩ := hd h1
    obtain ⟨oj, b1, b2, b3⟩ := hd h2
    have := (hj i oi a1).2 j b3
    rw [b1] at this
    simp only [b2, Bool.and_eq_true, Bool.or_eq_true, Bool.not_eq_true', decide_eq_false_iff_not, decide_eq_true_eq] at this
    rcases this.1 with h | h
    · exact absurd a2 h
    · exact h.symm
  · obtain ⟨oj, b1, b2, b3⟩ := hd h1
    have := (hj i o ho).2 j b3
    rw [b1] at this
    simp only [b2, Bool.and_eq_true, Bool.or_eq_true, Bool.not_eq_true', decide_eq_false_iff_not, decide_eq_true_eq] at this
    rcases this.2 with h | h
    · exact absurd h2 (by simpa using h)
    · rw [Array.any_eq_true'] at h
      obtain ⟨e, he, hb⟩ := h
      simp only [Bool.and_eq_true, decide_eq_true_eq] at hb
      exact ⟨e, he, hb⟩
/-- a pure operation that may be done at any time from now on -/
def Virt (P : Program) (ops : Array Oper) (Y : Array Bool) (G : Env) (i : Nat) : Prop :=
  ∃ o p, ops[i]? = some o ∧ (∀ H nx, OpS P o true G H nx p H nx) ∧ (∀ d, o.dst = some d → look G d = some p) ∧ ∀ t ∈ opTmps o, ∀ j, dstOf ops j = some t → Y.getD j false = true
/-- the operations Y are done, or can be done at any time -/
def AnyY (P : Program) (ops : Array Oper) (N : Nat) (C : Cx) (Q : Exit → Act → World → Prop) (Y : Array Bool) (G : Env) (H : Hp) (nx : Nat) : Prop :=
  ∀ fuel X a w, X.size = ops.size → (∀ i, X.getD i false = true → Y.getD i false = true) → (∀ i, Y.getD i false = true → X.getD i false = false → Virt P ops Y G i) → (X.toList.filter (!·)).length ≤ fuel → a.defers = [] → a.tmps.size = N →
    (∃ S m, Mem C H nx S m w ∧ ∀ t q, look G t = some q → (∀ i, Y.getD i false = true → X.getD i false = false → dstOf ops i ≠ some t) → RepAt w S m a t q) → wpAny P .any ops Q fuel X a w
theorem virt_more {Y : Array Bool} {G : Env} {i j : Nat} {d : Option Tmp} {p : PV} (hj : j < Y.size) (hd : dstOf ops j = d) (hY : Y.getD j false = false) (hG : ∀ t, d = some t → look G t = none) (h : Virt P ops Y G i) : Virt P ops (Y.setIfInBounds j true) (gput G d p) i := by
  obtain ⟨o, q, h1, h2, h3, h4⟩ := h
  have hlk : ∀ t ∈ opTmps o, look (gput G d p) t = look G t := fun t ht => by
    rw [look_gput, if_neg]
    intro e
    have := h4 t ht j (hd.trans e)
    rw [hY] at this; cases this
  refine ⟨o, q, h1, fun H nx => ⟨fun C S m a w hm hg hr => (h2 H nx).run C S m a w hm hg fun t q ht hq => hr t q ht (by rw [hlk t ht]; exact hq)⟩, fun t ht => ?_, fun t ht k hk => ?_⟩
  · rw [look_gput]
    by_cases e : d = some t
    · have := hG t e
      rw [h3 t ht] at this; cases this
    · rw [if_neg e]; exact h3 t ht
  · exact (set_iff hj).2 (.inr (h4 t ht k hk))
def StepY (P : Program) (ops : Array Oper) (N : Nat) (C : Cx) (Q : Exit → Act → World → Prop) (Y : Array Bool) (G : Env) (H : Hp) (nx : Nat) (j : Nat) : Prop :=
  ∃ o p H1 nx1, ops[j]? = some o ∧ OpS P o true G H nx p H1 nx1 ∧ (∀ t, o.dst = some t → look G t = none) ∧ AnyY P ops N C Q (Y.setIfInBounds j true) (gput G o.dst p) H1 nx1
theorem filt_set : ∀ (l : List Bool) (i : Nat) (h : i < l.length), l[i] = false → ((l.set i true).filter (!·)).length + 1 ≤ (l.filter (!·)).length := by
  intro l
  induction l with
  | nil => intro i h; simp at h
  | cons b l ih =>
    intro i h hb
    cases i with
    | zero => simp at hb; subst hb; simp
    | succ i =>
      simp only [List.set_cons_succ, List.filter_cons]
      have := ih i (by simpa using h) (by simpa using hb)
      cases b <;> simp <;> omega
theorem some_ready (hgd : YOk ops N) {X : Array Bool} (hX : X.size = ops.size) (hr : Region.ready .any ops X = []) : ∀ i, i < ops.size → X.getD i false = true := by
  intro i
  induction i using Nat.strongRecOn with
  | _ i ih =>
    intro hi
    cases hx : X.getD i false with
    | true => rfl
    | false =>
      have : i ∈ Region.ready .any ops X := mem_ready.2 ⟨by
        have : i < X.size := by omega
        simpa [Array.getD, this] using hx, ops[i], by simp [hi], fun e he hb => by
        have := hgd.back i ops[i] e (by simp [hi]) he hb
        exact ih e.on this (by omega)⟩
      rw [hr] at this; cases this
theorem AnyY.step {Y : Array Bool} {G : Env} {H : Hp} {nx : Nat} {L : List Nat} (hok : yOK ops N = true) (hYs : Y.size = ops.size) (hr : Region.ready .any ops Y = L) (h0 : L = [] → Next C N G H nx (Q .normal)) (h : ∀ j ∈ L, StepY P ops N C Q Y G H nx j) : AnyY P ops N C Q Y G H nx := by
  have hgd := yOK_spec hok
  intro fuel
  induction fuel with
  | zero =>
    intro X a w hX hXY hV hf h1 h2 ⟨S, m, hm, hsl⟩
    have hall : ∀ i, i < ops.size → X.getD i false = true := fun i hi => by
      have hi' : i < X.toList.length := by simpa [hX] using hi
      cases hx : X.getD i false with
      | true => rfl
      | false =>
        have hxi : X.toList[i] = false := by
          have : i < X.size := by omega
          simpa [Array.getD, this] using hx
        have := filt_set X.toList i hi' hxi
        omega
    have hrX : Region.ready .any ops X = [] := List.eq_nil_iff_forall_not_mem.2 fun i hi => by
      obtain ⟨g1, o, g2, _⟩ := mem_ready.1 hi
      have hin := (Array.getElem?_eq_some_iff.1 g2).1
      have := hall i hin
      have hi2 : i < X.size := by omega
      simp [Array.getD, hi2] at g1 this
      rw [this] at g1; cases g1
    have hL : L = [] := by
      rw [← hr]
      exact List.eq_nil_iff_forall_not_mem.2 fun i hi => by
        obtain ⟨g1, o, g2, _⟩ := mem_ready.1 hi
        have hin := (Array.getElem?_eq_some_iff.1 g2).1
        have := hXY i (hall i hin)
        have hi2 : i < Y.size := by omega
        simp [Array.getD, hi2] at g1 this
        rw [this] at g1; cases g1
    refine ⟨hrX, h0 hL a w ⟨h1, h2, S, m, hm, fun t q hq => hsl t q hq fun i hi hx => ?_⟩⟩
    intro hd
    have hin : i < ops.size := by
      unfold dstOf at hd
      obtain ⟨oj, g1, _⟩ := Option.bind_eq_some_iff.1 hd
      exact (Array.getElem?_eq_some_iff.1 g1).1
    rw [hall i hin] at hx; cases hx
  | succ fuel ih =>
    intro X a w hX hXY hV hf h1 h2 ⟨S, m, hm, hsl⟩
    refine ⟨fun hrX => ?_, fun i hi => ?_⟩
    · have hall := some_ready hgd hX hrX
      have hL : L = [] := by
        rw [← hr]
        exact List.eq_nil_iff_forall_not_mem.2 fun i hi => by
          obtain ⟨g1, o, g2, _⟩ := mem_ready.1 hi
          have hin := (Array.getElem?_eq_some_iff.1 g2).1
          have := hXY i (hall i hin)
          have hi2 : i < Y.size := by omega
          simp [Array.getD, hi2] at g1 this
          rw [this] at g1; cases g1
      refine h0 hL a w ⟨h1, h2, S, m, hm, fun t q hq => hsl t q hq fun i hi hx => ?_⟩
      intro hd
      have hin : i < ops.size := by
        unfold dstOf at hd
        obtain ⟨oj, g1, _⟩ := Option.bind_eq_some_iff.1 hd
        exact (Array.getElem?_eq_some_iff.1 g1).1
      rw [hall i hin] at hx; cases hx
    · obtain ⟨hn0, o, ho, hrd⟩ := mem_ready.1 hi
      have hin : i < ops.size := (Array.getElem?_eq_some_iff.1 ho).1
      have hiX : i < X.size := by omega
      have hx : X.getD i false = false := by simpa [Array.getD, hiX] using hn0
      have hset := fun j => set_iff (X := X) (i := i) (j := j) hiX
      have hdi : dstOf ops i = o.dst := by unfold dstOf; rw [ho]; rfl
      have hfu : ((X.setIfInBounds i true).toList.filter (!·)).length ≤ fuel := by
        rw [show (X.setIfInBounds i true).toList = X.toList.set i true by simp]
        have := filt_set X.toList i (by simpa using hiX) (by simpa [Array.getD, hiX] using hx)
        omega
      have hopd : ∀ t q, t ∈ opTmps o → look G t = some q → RepAt w S m a t q := fun t q ht hq => hsl t q hq fun j hj hxj hd => by
        obtain ⟨e, he, hb, hon⟩ := hgd.read i j o t ho hd ht
        have := hrd e he hb
        rw [hon, hxj] at this; cases this
      unfold wpOp
      simp only [ho]
      rw [if_pos (by simp [Region.wanted, hgd.grd i o ho])]
      refine .inl ?_
      by_cases hY : Y.getD i false = true
      · obtain ⟨o', p, g1, g2, g3, g4⟩ := hV i hY hx
        rw [ho] at g1; cases g1
        refine (g2 H nx).run C S m a w hm rfl hopd _ _ fun v w' S' m' hm' hle hv => ?_
        refine ih (X.setIfInBounds i true) (a.put o.dst v) w' (by rw [setSize]; exact hX) (fun j hj => ?_) (fun j hj hxj => hV j hj ?_) hfu (by rw [put_defers]; exact h1) (by rw [put_size]; exact h2) ⟨S', m', hm', fun t q hq hn => ?_⟩
        · rcases (hset j).1 hj with rfl | hj
          · exact hY
          · exact hXY j hj
        · cases hb : X.getD j false with
          | false => rfl
          | true => rw [(hset j).2 (.inr hb)] at hxj; cases hxj
        · by_cases hd : o.dst = some t
          · have := g3 t hd
            rw [hq] at this; cases this
            rw [hd]
            exact ⟨v, put_self (by rw [h2]; exact hgd.dst i o t ho hd), hv⟩
          · obtain ⟨u, hu, hr2⟩ := hsl t q hq fun j hj hxj hdj => by
              by_cases hji : j = i
              · subst hji; exact hd (hdi.symm.trans hdj)
              · refine hn j hj ?_ hdj
                cases hb : (X.setIfInBounds i true).getD j false with
                | false => rfl
                | true => rcases (hset j).1 hb with e | e
                          · exact absurd e hji
                          · rw [e] at hxj; cases hxj
            exact ⟨u, (put_at hd).trans hu, hr2.mono hle⟩
      · have hYf : Y.getD i false = false := by simpa using hY
        have hiL : i ∈ L := by
          rw [← hr]
          refine mem_ready.2 ⟨?_, o, ho, fun e he hb => hXY _ (hrd e he hb)⟩
          have : i < Y.size := by omega
          simpa [Array.getD, this] using hYf
        obtain ⟨o', p, H1, nx1, g1, g2, g3, g4⟩ := h i hiL
        rw [ho] at g1; cases g1
        refine g2.run C S m a w hm rfl hopd _ _ fun v w' S' m' hm' hle hv => ?_
        have hsetY := fun j => set_iff (X := Y) (i := i) (j := j) (by omega)
        refine g4 fuel (X.setIfInBounds i true) (a.put o.dst v) w' (by rw [setSize]; exact hX) (fun j hj => ?_) (fun j hj hxj => ?_) hfu (by rw [put_defers]; exact h1) (by rw [put_size]; exact h2) ⟨S', m', hm', fun t q hq hn => ?_⟩
        · rcases (hset j).1 hj with rfl | hj
          · exact (hsetY j).2 (.inl rfl)
          · exact (hsetY j).2 (.inr (hXY j hj))
        · have hxf : X.getD j false = false := by
            cases hb : X.getD j false with
            | false => rfl
            | true => rw [(hset j).2 (.inr hb)] at hxj; cases hxj
          rcases (hsetY j).1 hj with rfl | hj
          · rw [(hset j).2 (.inl rfl)] at hxj; cases hxj
          · exact virt_more (by omega) hdi hYf g3 (hV j hj hxf)
        · rw [look_gput] at hq
          by_cases hd : o.dst = some t
          · rw [if_pos hd] at hq; cases hq
            rw [hd]
            exact ⟨v, put_self (by rw [h2]; exact hgd.dst i o t ho hd), hv⟩
          · rw [if_neg hd] at hq
            obtain ⟨u, hu, hr2⟩ := hsl t q hq fun j hj hxj hdj => by
              by_cases hji : j = i
              · subst hji; exact hd (hdi.symm.trans hdj)
              · refine hn j ((hsetY j).2 (.inr hj)) ?_ hdj
                cases hb : (X.setIfInBounds i true).getD j false with
                | false => rfl
                | true => rcases (hset j).1 hb with e | e
                          · exact absurd e hji
                          · rw [e] at hxj; cases hxj
            exact ⟨u, (put_at hd).trans hu, hr2.mono hle⟩
theorem StepY.mk {Y : Array Bool} {G : Env} {H : Hp} {nx j : Nat} {o : Oper} {p : PV} {H1 : Hp} {nx1 : Nat} (h1 : ops[j]? = some o) (h2 : OpS P o true G H nx p H1 nx1) (h3 : ∀ t, o.dst = some t → look G t = none) (h4 : AnyY P ops N C Q (Y.setIfInBounds j true) (gput G o.dst p) H1 nx1) : StepY P ops N C Q Y G H nx j := ⟨o, p, H1, nx1, h1, h2, h3, h4⟩
theorem AnyY.nil {Y : Array Bool} {G : Env} {H : Hp} {nx : Nat} (hok : yOK ops N = true) (hYs : Y.size = ops.size) (hr : Region.ready .any ops Y = []) (h0 : Next C N G H nx (Q .normal)) : AnyY P ops N C Q Y G H nx := .step hok hYs hr (fun _ => h0) fun j hj => by cases hj
theorem AnyY.one {Y : Array Bool} {G : Env} {H : Hp} {nx : Nat} (i : Nat) (hok : yOK ops N = true) (hYs : Y.size = ops.size) (hr : Region.ready .any ops Y = [i]) (h : StepY P ops N C Q Y G H nx i) : AnyY P ops N C Q Y G H nx := .step hok hYs hr (fun e => by cases e) fun j hj => by simp at hj; subst hj; exact h
theorem AnyY.two {Y : Array Bool} {G : Env} {H : Hp} {nx : Nat} (i j : Nat) (hok : yOK ops N = true) (hYs : Y.size = ops.size) (hr : Region.ready .any ops Y = [i, j]) (h : StepY P ops N C Q Y G H nx i) (h2 : StepY P ops N C Q Y G H nx j) : AnyY P ops N C Q Y G H nx := .step hok hYs hr (fun e => by cases e) fun k hk => by
  simp at hk; rcases hk with rfl | rfl
  · exact h
  · exact h2
theorem AnyY.three {Y : Array Bool} {G : Env} {H : Hp} {nx : Nat} (i j k : Nat) (hok : yOK ops N = true) (hYs : Y.size = ops.size) (hr : Region.ready .any ops Y = [i, j, k]) (h : StepY P ops N C Q Y G H nx i) (h2 : StepY P ops N C Q Y G H nx j) (h3 : StepY P ops N C Q Y G H nx k) : AnyY P ops N C Q Y G H nx := .step hok hYs hr (fun e => by cases e) fun l hl => by
  simp at hl; rcases hl with rfl | rfl | rfl
  · exact h
  · exact h2
  · exact h3
theorem AnyY.toRefs {Y : Array Bool} {G : Env} {H : Hp} {nx : Nat} (id : Nat) {sz : Nat} {rows : List (List FV)} {rows' : List (List PV)} (hl : hlook H id = some (.flat sz rows)) (hr : (rows.map fun r => r.map PV.fz) = rows') (h : AnyY P ops N C Q Y G ((id, some (.refs sz rows')) :: H) nx) : AnyY P ops N C Q Y G H nx := by
  subst hr
  intro fuel X a w h1 h2 h3 h4 h5 h6 ⟨S, m, hm, hsl⟩
  exact h fuel X a w h1 h2 h3 h4 h5 h6 ⟨S, m, hm.retell hl ORep.toRefs (no_own plain_map), hsl⟩
end
end Go.RT
/- Short names of rules. -/
namespace Go.RT
theorem oT {G : Env} {g : Bool} {t : Tmp} {p : PV} (h : look G t = some p) : Opd G g (.tmp t) p := .tmp t p h
theorem oO {G : Env} {g : Bool} {t : Tmp} {p : PV} {g' : Bool} (h : look G t = some (.opt g' p)) (h2 : g = true → g' = true) : Opd G g (.tmp t) p := .topt t p g' h h2
theorem oC {G : Env} {g : Bool} {v : Value} : Opd G g (.const v) (.fz (.lit v)) := .const v
theorem oS {G : Env} {g : Bool} {x : Operand} {xs : List Operand} {p : PV} {ps : List PV} (h : Opd G g x p) (k : Opds G g xs ps) : Opds G g (x :: xs) (p :: ps) := .cons x xs p ps h k
theorem rp (d : Nat) {P : Program} {ops : Array Oper} {F : List Kd → Env → Hp → Nat → Prop} {o : Oper} {rest : List Oper} {G : Env} {H : Hp} {nx : Nat} {ks : List Kd} {p : PV} (h1 : (o.guard, o.dst) = (none, some d)) (h : ∀ H nx, OpS P o true G H nx p H nx) (tl : Run P ops F rest (gput G (some d) p) H nx (.p :: ks)) : Run P ops F (o :: rest) G H nx ks := .pure (congrArg Prod.fst h1) (congrArg Prod.snd h1) h tl
theorem rg (e : Nat) {P : Program} {ops : Array Oper} {F : List Kd → Env → Hp → Nat → Prop} {o : Oper} {rest : List Oper} {G : Env} {H : Hp} {nx : Nat} {ks : List Kd} {p : PV} {j : Nat} {b g : Bool} {d : Tmp} (h1 : (o.guard, o.dst) = (some (j, b), some e)) (hd : dstOf ops j = some d) (hl : Grd G d b g) (h : ∀ H nx, OpS P o g G H nx p H nx) (tl : Run P ops F rest (gput G (some e) (.opt g p)) H nx (.p :: ks)) : Run P ops F (o :: rest) G H nx ks := .pureG (congrArg Prod.fst h1) (congrArg Prod.snd h1) hd hl h tl
theorem rl (d : Nat) {P : Program} {ops : Array Oper} {F : List Kd → Env → Hp → Nat → Prop} {o : Oper} {rest : List Oper} {G : Env} {H : Hp} {nx : Nat} {ks : List Kd} {p : PV} {L : List Nat} (h1 : (o.guard, o.dst) = (none, some d)) (h : OpL P o true G H L p) (tl : Run P ops F rest (gput G (some d) p) H nx (.l L :: ks)) : Run P ops F (o :: rest) G H nx ks := .load (congrArg Prod.fst h1) (congrArg Prod.snd h1) h tl
theorem rk (e : Nat) {P : Program} {ops : Array Oper} {F : List Kd → Env → Hp → Nat → Prop} {o : Oper} {rest : List Oper} {G : Env} {H : Hp} {nx : Nat} {ks : List Kd} {p : PV} {j : Nat} {b g : Bool} {d : Tmp} {L : List Nat} (h1 : (o.guard, o.dst) = (some (j, b), some e)) (hd : dstOf ops j = some d) (hl : Grd G d b g) (h : OpL P o g G H L p) (tl : Run P ops F rest (gput G (some e) (.opt g p)) H nx (.l L :: ks)) : Run P ops F (o :: rest) G H nx ks := .loadG (congrArg Prod.fst h1) (congrArg Prod.snd h1) hd hl h tl
theorem rm (d : Nat) {P : Program} {ops : Array Oper} {F : List Kd → Env → Hp → Nat → Prop} {o : Oper} {rest : List Oper} {G : Env} {H : Hp} {nx : Nat} {ks : List Kd} {p : PV} {t : Tmp} (h1 : (o.guard, o.dst) = (none, some d)) (ho : o.op = .move (.tmp t)) (hl : look G t = some p) (tl : Run P ops F rest (gput G (some d) p) H nx (.p :: ks)) : Run P ops F (o :: rest) G H nx ks := .pure (congrArg Prod.fst h1) (congrArg Prod.snd h1) (op_move ho (.tmp t p hl)) tl
theorem ra (d : Nat) {P : Program} {ops : Array Oper} {F : List Kd → Env → Hp → Nat → Prop} {o : Oper} {rest : List Oper} {G : Env} {H : Hp} {nx : Nat} {ks : List Kd} {p : PV} {t : Tmp} (h1 : (o.guard, o.dst) = (none, some d)) (ho : o.op = .assign (.tmp t)) (hl : look G t = some p) (tl : Run P ops F rest (gput G (some d) p) H nx (.p :: ks)) : Run P ops F (o :: rest) G H nx ks := .pure (congrArg Prod.fst h1) (congrArg Prod.snd h1) (op_assign ho (.tmp t p hl)) tl
theorem gm (e : Nat) {P : Program} {ops : Array Oper} {F : List Kd → Env → Hp → Nat → Prop} {o : Oper} {rest : List Oper} {G : Env} {H : Hp} {nx : Nat} {ks : List Kd} {p : PV} {t : Tmp} {j : Nat} {b g : Bool} {d : Tmp} (h1 : (o.guard, o.dst) = (some (j, b), some e)) (hd : dstOf ops j = some d) (hl : Grd G d b g) (ho : o.op = .move (.tmp t)) (hk : look G t = some p) (tl : Run P ops F rest (gput G (some e) (.opt g p)) H nx (.p :: ks)) : Run P ops F (o :: rest) G H nx ks := .pureG (congrArg Prod.fst h1) (congrArg Prod.snd h1) hd hl (op_move ho (.tmp t p hk)) tl
theorem rn {P : Program} {ops : Array Oper} {C : Cx} {N : Nat} {l : List Oper} {K : Act → World → Prop} {G : Env} {H : Hp} {nx : Nat} {ks : List Kd} (h : Next C N G H nx K) : Run P ops (FinR C N l K) [] G H nx ks := .nil (.mk h)
end Go.RT
/- The types and functions of the translation, as the rules ask for them. Written by tab.py. -/
namespace Go.Proofs.Ytnkhlbljnmodbaa
open Go Go.RT Go.Proofs
set_option linter.unusedVariables false
theorem mixed : Try.prog.follows .mixedOrders = true := Try.checked.mixed
theorem tyn_of {P : Program} {t : TypeId} {s b : Nat} {z : Value} (h : (P.info? t).map (fun i => (i.size, i.bytes, i.zero)) = some (s, b, some z)) : TyN P t s b z := by
  obtain ⟨i, hi, he⟩ := Option.map_eq_some_iff.1 h
  simp only [Prod.mk.injEq] at he
  exact ⟨i, hi, he.1, he.2.1, he.2.2⟩
instance : TyA Try.prog 1 false := ⟨_, Try.underlying1, rfl⟩
instance : TyN Try.prog 1 1 8 (.nilFunc) := tyn_of (by kernel_rfl)
instance : TyD Try.prog 2 (.int .i64) := ⟨Try.underlying2⟩
instance : TyA Try.prog 2 false := ⟨_, Try.underlying2, rfl⟩
instance : TyN Try.prog 2 1 8 (.int .i64 0) := tyn_of (by kernel_rfl)
instance : TyD Try.prog 3 (.int .i64) := ⟨Try.underlying3⟩
instance : TyA Try.prog 3 false := ⟨_, Try.underlying3, rfl⟩
instance : TyN Try.prog 3 1 8 (.int .i64 0) := tyn_of (by kernel_rfl)
instance : TyD Try.prog 4 (.bool) := ⟨Try.underlying4⟩
instance : TyA Try.prog 4 false := ⟨_, Try.underlying4, rfl⟩
instance : TyN Try.prog 4 1 1 (.bool false) := tyn_of (by kernel_rfl)
instance : TyD Try.prog 5 (.int .u8) := ⟨Try.underlying5⟩
instance : TyA Try.prog 5 false := ⟨_, Try.underlying5, rfl⟩
instance : TyN Try.prog 5 1 1 (.int .u8 0) := tyn_of (by kernel_rfl)
instance : TyD Try.prog 9 (.string) := ⟨Try.underlying9⟩
instance : TyA Try.prog 9 false := ⟨_, Try.underlying9, rfl⟩
instance : TyN Try.prog 9 1 16 (.string ⟨#[]⟩) := tyn_of (by kernel_rfl)
instance : TyD Try.prog 12 (.int .u64) := ⟨Try.underlying12⟩
instance : TyA Try.prog 12 false := ⟨_, Try.underlying12, rfl⟩
instance : TyN Try.prog 12 1 8 (.int .u64 0) := tyn_of (by kernel_rfl)
instance : TyA Try.prog 13 true := ⟨_, Try.underlying13, rfl⟩
instance : TyN Try.prog 13 2 24 (.agg #[.string ⟨#[]⟩, .int .u64 0]) := tyn_of (by kernel_rfl)
instance : TyF Try.prog 13 0 0 9 := ⟨_, _, Try.underlying13, rfl, rfl, rfl⟩
instance : TyF Try.prog 13 1 1 12 := ⟨_, _, Try.underlying13, rfl, rfl, rfl⟩
instance : TyB Try.prog 13 [(0, 1), (1, 1)] := ⟨_, Try.underlying13, fun w => by kernel_rfl⟩
instance : TyD Try.prog 21 (.int .i32) := ⟨Try.underlying21⟩
instance : TyA Try.prog 21 false := ⟨_, Try.underlying21, rfl⟩
instance : TyN Try.prog 21 1 4 (.int .i32 0) := tyn_of (by kernel_rfl)
instance : TyD Try.prog 22 (.slice 37) := ⟨Try.underlying22⟩
instance : TyA Try.prog 22 false := ⟨_, Try.underlying22, rfl⟩
instance : TyN Try.prog 22 1 24 (.slice none 0 0) := tyn_of (by kernel_rfl)
instance : TyA Try.prog 23 false := ⟨_, Try.underlying23, rfl⟩
instance : TyN Try.prog 23 1 8 (.nilFunc) := tyn_of (by kernel_rfl)
instance : TyA Try.prog 24 false := ⟨_, Try.underlying24, rfl⟩
instance : TyN Try.prog 24 1 8 (.nilFunc) := tyn_of (by kernel_rfl)
instance : TyD Try.prog 25 (.slice 56) := ⟨Try.underlying25⟩
instance : TyA Try.prog 25 false := ⟨_, Try.underlying25, rfl⟩
instance : TyN Try.prog 25 1 24 (.slice none 0 0) := tyn_of (by kernel_rfl)
instance : TyA Try.prog 26 true := ⟨_, Try.underlying26, rfl⟩
instance : TyN Try.prog 26 3 40 (.agg #[.int .i64 0, .int .i64 0, .slice none 0 0]) := tyn_of (by kernel_rfl)
instance : TyF Try.prog 26 0 0 3 := ⟨_, _, Try.underlying26, rfl, rfl, rfl⟩
instance : TyF Try.prog 26 1 1 3 := ⟨_, _, Try.underlying26, rfl, rfl, rfl⟩
instance : TyF Try.prog 26 2 2 25 := ⟨_, _, Try.underlying26, rfl, rfl, rfl⟩
instance : TyB Try.prog 26 [(0, 1), (1, 1), (2, 1)] := ⟨_, Try.underlying26, fun w => by kernel_rfl⟩
instance : TyA Try.prog 27 true := ⟨_, Try.underlying27, rfl⟩
instance : TyN Try.prog 27 3 40 (.agg #[.int .i64 0, .int .i64 0, .slice none 0 0]) := tyn_of (by kernel_rfl)
instance : TyF Try.prog 27 0 0 3 := ⟨_, _, Try.underlying27, rfl, rfl, rfl⟩
instance : TyF Try.prog 27 1 1 3 := ⟨_, _, Try.underlying27, rfl, rfl, rfl⟩
instance : TyF Try.prog 27 2 2 25 := ⟨_, _, Try.underlying27, rfl, rfl, rfl⟩
instance : TyB Try.prog 27 [(0, 1), (1, 1), (2, 1)] := ⟨_, Try.underlying27, fun w => by kernel_rfl⟩
instance : TyA Try.prog 28 false := ⟨_, Try.underlying28, rfl⟩
instance : TyN Try.prog 28 1 8 (.nilFunc) := tyn_of (by kernel_rfl)
instance : TyD Try.prog 29 (.int .i64) := ⟨Try.underlying29⟩
instance : TyA Try.prog 29 false := ⟨_, Try.underlying29, rfl⟩
instance : TyN Try.prog 29 1 8 (.int .i64 0) := tyn_of (by kernel_rfl)
instance : TyA Try.prog 31 false := ⟨_, Try.underlying31, rfl⟩
instance : TyN Try.prog 31 1 8 (.nilFunc) := tyn_of (by kernel_rfl)
instance : TyA Try.prog 32 false := ⟨_, Try.underlying32, rfl⟩
instance : TyN Try.prog 32 1 8 (.nilFunc) := tyn_of (by kernel_rfl)
instance : TyA Try.prog 33 false := ⟨_, Try.underlying33, rfl⟩
instance : TyN Try.prog 33 1 8 (.nilFunc) := tyn_of (by kernel_rfl)
instance : TyA Try.prog 35 false := ⟨_, Try.underlying35, rfl⟩
instance : TyN Try.prog 35 1 8 (.nilFunc) := tyn_of (by kernel_rfl)
instance : TyA Try.prog 36 false := ⟨_, Try.underlying36, rfl⟩
instance : TyN Try.prog 36 1 8 (.nilFunc) := tyn_of (by kernel_rfl)
instance : TyD Try.prog 37 (.slice 3) := ⟨Try.underlying37⟩
instance : TyA Try.prog 37 false := ⟨_, Try.underlying37, rfl⟩
instance : TyN Try.prog 37 1 24 (.slice none 0 0) := tyn_of (by kernel_rfl)
instance : TyA Try.prog 38 false := ⟨_, Try.underlying38, rfl⟩
instance : TyN Try.prog 38 1 8 (.nilFunc) := tyn_of (by kernel_rfl)
instance : TyD Try.prog 39 (.slice 46) := ⟨Try.underlying39⟩
instance : TyA Try.prog 39 false := ⟨_, Try.underlying39, rfl⟩
instance : TyN Try.prog 39 1 24 (.slice none 0 0) := tyn_of (by kernel_rfl)
instance : TyA Try.prog 41 false := ⟨_, Try.underlying41, rfl⟩
instance : TyN Try.prog 41 1 8 (.nilFunc) := tyn_of (by kernel_rfl)
instance : TyA Try.prog 42 false := ⟨_, Try.underlying42, rfl⟩
instance : TyN Try.prog 42 1 8 (.nilFunc) := tyn_of (by kernel_rfl)
instance : TyA Try.prog 44 false := ⟨_, Try.underlying44, rfl⟩
instance : TyN Try.prog 44 1 8 (.nilFunc) := tyn_of (by kernel_rfl)
instance : TyA Try.prog 45 true := ⟨_, Try.underlying45, rfl⟩
instance : TyN Try.prog 45 5 40 (.agg #[.int .i64 0, .int .i64 0, .int .i64 0, .int .i64 0, .bool false]) := tyn_of (by kernel_rfl)
instance : TyF Try.prog 45 0 0 3 := ⟨_, _, Try.underlying45, rfl, rfl, rfl⟩
instance : TyF Try.prog 45 1 1 3 := ⟨_, _, Try.underlying45, rfl, rfl, rfl⟩
instance : TyF Try.prog 45 2 2 3 := ⟨_, _, Try.underlying45, rfl, rfl, rfl⟩
instance : TyF Try.prog 45 3 3 3 := ⟨_, _, Try.underlying45, rfl, rfl, rfl⟩
instance : TyF Try.prog 45 4 4 4 := ⟨_, _, Try.underlying45, rfl, rfl, rfl⟩
instance : EqS Try.prog 45 5 := ⟨by kernel_rfl, by kernel_rfl, by kernel_rfl, by kernel_rfl⟩
instance : TyB Try.prog 45 [(0, 1), (1, 1), (2, 1), (3, 1), (4, 1)] := ⟨_, Try.underlying45, fun w => by kernel_rfl⟩
instance : TyA Try.prog 46 true := ⟨_, Try.underlying46, rfl⟩
instance : TyN Try.prog 46 5 40 (.agg #[.int .i64 0, .int .i64 0, .int .i64 0, .int .i64 0, .bool false]) := tyn_of (by kernel_rfl)
instance : TyF Try.prog 46 0 0 3 := ⟨_, _, Try.underlying46, rfl, rfl, rfl⟩
instance : TyF Try.prog 46 1 1 3 := ⟨_, _, Try.underlying46, rfl, rfl, rfl⟩
instance : TyF Try.prog 46 2 2 3 := ⟨_, _, Try.underlying46, rfl, rfl, rfl⟩
instance : TyF Try.prog 46 3 3 3 := ⟨_, _, Try.underlying46, rfl, rfl, rfl⟩
instance : TyF Try.prog 46 4 4 4 := ⟨_, _, Try.underlying46, rfl, rfl, rfl⟩
instance : EqS Try.prog 46 5 := ⟨by kernel_rfl, by kernel_rfl, by kernel_rfl, by kernel_rfl⟩
instance : TyB Try.prog 46 [(0, 1), (1, 1), (2, 1), (3, 1), (4, 1)] := ⟨_, Try.underlying46, fun w => by kernel_rfl⟩
instance : TyA Try.prog 47 false := ⟨_, Try.underlying47, rfl⟩
instance : TyN Try.prog 47 1 8 (.nilFunc) := tyn_of (by kernel_rfl)
instance : TyA Try.prog 48 false := ⟨_, Try.underlying48, rfl⟩
instance : TyN Try.prog 48 1 8 (.nilFunc) := tyn_of (by kernel_rfl)
instance : TyA Try.prog 50 false := ⟨_, Try.underlying50, rfl⟩
instance : TyN Try.prog 50 1 8 (.nilFunc) := tyn_of (by kernel_rfl)
instance : TyA Try.prog 52 false := ⟨_, Try.underlying52, rfl⟩
instance : TyN Try.prog 52 1 8 (.nilFunc) := tyn_of (by kernel_rfl)
instance : TyA Try.prog 53 false := ⟨_, Try.underlying53, rfl⟩
instance : TyN Try.prog 53 1 8 (.nilFunc) := tyn_of (by kernel_rfl)
instance : TyA Try.prog 54 false := ⟨_, Try.underlying54, rfl⟩
instance : TyN Try.prog 54 1 8 (.nilFunc) := tyn_of (by kernel_rfl)
instance : TyA Try.prog 55 true := ⟨_, Try.underlying55, rfl⟩
instance : TyN Try.prog 55 3 24 (.agg #[.int .i64 0, .int .i64 0, .int .i64 0]) := tyn_of (by kernel_rfl)
instance : TyF Try.prog 55 0 0 3 := ⟨_, _, Try.underlying55, rfl, rfl, rfl⟩
instance : TyF Try.prog 55 1 1 3 := ⟨_, _, Try.underlying55, rfl, rfl, rfl⟩
instance : TyF Try.prog 55 2 2 3 := ⟨_, _, Try.underlying55, rfl, rfl, rfl⟩
instance : EqS Try.prog 55 3 := ⟨by kernel_rfl, by kernel_rfl, by kernel_rfl, by kernel_rfl⟩
instance : TyB Try.prog 55 [(0, 1), (1, 1), (2, 1)] := ⟨_, Try.underlying55, fun w => by kernel_rfl⟩
instance : TyA Try.prog 56 true := ⟨_, Try.underlying56, rfl⟩
instance : TyN Try.prog 56 3 24 (.agg #[.int .i64 0, .int .i64 0, .int .i64 0]) := tyn_of (by kernel_rfl)
instance : TyF Try.prog 56 0 0 3 := ⟨_, _, Try.underlying56, rfl, rfl, rfl⟩
instance : TyF Try.prog 56 1 1 3 := ⟨_, _, Try.underlying56, rfl, rfl, rfl⟩
instance : TyF Try.prog 56 2 2 3 := ⟨_, _, Try.underlying56, rfl, rfl, rfl⟩
instance : EqS Try.prog 56 3 := ⟨by kernel_rfl, by kernel_rfl, by kernel_rfl, by kernel_rfl⟩
instance : TyB Try.prog 56 [(0, 1), (1, 1), (2, 1)] := ⟨_, Try.underlying56, fun w => by kernel_rfl⟩
instance : TyA Try.prog 57 false := ⟨_, Try.underlying57, rfl⟩
instance : TyN Try.prog 57 1 8 (.nilFunc) := tyn_of (by kernel_rfl)
instance : TyA Try.prog 58 false := ⟨_, Try.underlying58, rfl⟩
instance : TyN Try.prog 58 1 8 (.nilFunc) := tyn_of (by kernel_rfl)
instance : TyA Try.prog 59 true := ⟨_, Try.underlying59, rfl⟩
instance : TyN Try.prog 59 4 80 (.agg #[.int .i64 0, .slice none 0 0, .slice none 0 0, .slice none 0 0]) := tyn_of (by kernel_rfl)
instance : TyF Try.prog 59 0 0 3 := ⟨_, _, Try.underlying59, rfl, rfl, rfl⟩
instance : TyF Try.prog 59 1 1 37 := ⟨_, _, Try.underlying59, rfl, rfl, rfl⟩
instance : TyF Try.prog 59 2 2 22 := ⟨_, _, Try.underlying59, rfl, rfl, rfl⟩
instance : TyF Try.prog 59 3 3 22 := ⟨_, _, Try.underlying59, rfl, rfl, rfl⟩
instance : TyB Try.prog 59 [(0, 1), (1, 1), (2, 1), (3, 1)] := ⟨_, Try.underlying59, fun w => by kernel_rfl⟩
instance : TyA Try.prog 60 true := ⟨_, Try.underlying60, rfl⟩
instance : TyN Try.prog 60 4 80 (.agg #[.int .i64 0, .slice none 0 0, .slice none 0 0, .slice none 0 0]) := tyn_of (by kernel_rfl)
instance : TyF Try.prog 60 0 0 3 := ⟨_, _, Try.underlying60, rfl, rfl, rfl⟩
instance : TyF Try.prog 60 1 1 37 := ⟨_, _, Try.underlying60, rfl, rfl, rfl⟩
instance : TyF Try.prog 60 2 2 22 := ⟨_, _, Try.underlying60, rfl, rfl, rfl⟩
instance : TyF Try.prog 60 3 3 22 := ⟨_, _, Try.underlying60, rfl, rfl, rfl⟩
instance : TyB Try.prog 60 [(0, 1), (1, 1), (2, 1), (3, 1)] := ⟨_, Try.underlying60, fun w => by kernel_rfl⟩
instance : TyA Try.prog 62 false := ⟨_, Try.underlying62, rfl⟩
instance : TyN Try.prog 62 1 8 (.nilFunc) := tyn_of (by kernel_rfl)
instance : TyA Try.prog 63 false := ⟨_, Try.underlying63, rfl⟩
instance : TyN Try.prog 63 1 8 (.nilFunc) := tyn_of (by kernel_rfl)
instance : TyA Try.prog 64 false := ⟨_, Try.underlying64, rfl⟩
instance : TyN Try.prog 64 1 8 (.nilFunc) := tyn_of (by kernel_rfl)
instance : TyA Try.prog 65 false := ⟨_, Try.underlying65, rfl⟩
instance : TyN Try.prog 65 1 8 (.nilFunc) := tyn_of (by kernel_rfl)
instance : TyA Try.prog 66 false := ⟨_, Try.underlying66, rfl⟩
instance : TyN Try.prog 66 1 8 (.nilFunc) := tyn_of (by kernel_rfl)
instance : TyA Try.prog 67 false := ⟨_, Try.underlying67, rfl⟩
instance : TyN Try.prog 67 1 8 (.nilFunc) := tyn_of (by kernel_rfl)
instance : TyA Try.prog 68 false := ⟨_, Try.underlying68, rfl⟩
instance : TyN Try.prog 68 1 8 (.nilFunc) := tyn_of (by kernel_rfl)
instance : TyA Try.prog 69 false := ⟨_, Try.underlying69, rfl⟩
instance : TyN Try.prog 69 1 8 (.nilFunc) := tyn_of (by kernel_rfl)
instance : TyA Try.prog 70 false := ⟨_, Try.underlying70, rfl⟩
instance : TyN Try.prog 70 1 8 (.nilFunc) := tyn_of (by kernel_rfl)
instance : TyA Try.prog 71 false := ⟨_, Try.underlying71, rfl⟩
instance : TyN Try.prog 71 1 8 (.nilFunc) := tyn_of (by kernel_rfl)
instance : TyD Try.prog 72 (.slice 25) := ⟨Try.underlying72⟩
instance : TyA Try.prog 72 false := ⟨_, Try.underlying72, rfl⟩
instance : TyN Try.prog 72 1 24 (.slice none 0 0) := tyn_of (by kernel_rfl)
instance : TyD Try.prog 73 (.pointer 89) := ⟨Try.underlying73⟩
instance : TyA Try.prog 73 false := ⟨_, Try.underlying73, rfl⟩
instance : TyN Try.prog 73 1 8 (.pointer none) := tyn_of (by kernel_rfl)
instance : TyA Try.prog 74 false := ⟨_, Try.underlying74, rfl⟩
instance : TyN Try.prog 74 1 8 (.nilFunc) := tyn_of (by kernel_rfl)
instance : TyA Try.prog 75 false := ⟨_, Try.underlying75, rfl⟩
instance : TyN Try.prog 75 1 8 (.nilFunc) := tyn_of (by kernel_rfl)
instance : TyA Try.prog 77 false := ⟨_, Try.underlying77, rfl⟩
instance : TyN Try.prog 77 1 8 (.nilFunc) := tyn_of (by kernel_rfl)
instance : TyA Try.prog 78 false := ⟨_, Try.underlying78, rfl⟩
instance : TyN Try.prog 78 1 8 (.nilFunc) := tyn_of (by kernel_rfl)
instance : TyA Try.prog 79 false := ⟨_, Try.underlying79, rfl⟩
instance : TyN Try.prog 79 1 8 (.nilFunc) := tyn_of (by kernel_rfl)
instance : TyA Try.prog 80 false := ⟨_, Try.underlying80, rfl⟩
instance : TyN Try.prog 80 1 8 (.nilFunc) := tyn_of (by kernel_rfl)
instance : TyA Try.prog 81 false := ⟨_, Try.underlying81, rfl⟩
instance : TyN Try.prog 81 1 8 (.nilFunc) := tyn_of (by kernel_rfl)
instance : TyA Try.prog 82 false := ⟨_, Try.underlying82, rfl⟩
instance : TyN Try.prog 82 1 8 (.nilFunc) := tyn_of (by kernel_rfl)
instance : TyA Try.prog 83 false := ⟨_, Try.underlying83, rfl⟩
instance : TyN Try.prog 83 1 8 (.nilFunc) := tyn_of (by kernel_rfl)
instance : TyA Try.prog 84 false := ⟨_, Try.underlying84, rfl⟩
instance : TyN Try.prog 84 1 8 (.nilFunc) := tyn_of (by kernel_rfl)
instance : TyA Try.prog 85 false := ⟨_, Try.underlying85, rfl⟩
instance : TyN Try.prog 85 1 8 (.nilFunc) := tyn_of (by kernel_rfl)
instance : TyA Try.prog 86 false := ⟨_, Try.underlying86, rfl⟩
instance : TyN Try.prog 86 1 8 (.nilFunc) := tyn_of (by kernel_rfl)
instance : TyD Try.prog 87 (.int .u64) := ⟨Try.underlying87⟩
instance : TyA Try.prog 87 false := ⟨_, Try.underlying87, rfl⟩
instance : TyN Try.prog 87 1 8 (.int .u64 0) := tyn_of (by kernel_rfl)
instance : TyA Try.prog 88 true := ⟨_, Try.underlying88, rfl⟩
instance : TyN Try.prog 88 3 72 (.agg #[.slice none 0 0, .slice none 0 0, .slice none 0 0]) := tyn_of (by kernel_rfl)
instance : TyF Try.prog 88 0 0 37 := ⟨_, _, Try.underlying88, rfl, rfl, rfl⟩
instance : TyF Try.prog 88 1 1 37 := ⟨_, _, Try.underlying88, rfl, rfl, rfl⟩
instance : TyF Try.prog 88 2 2 37 := ⟨_, _, Try.underlying88, rfl, rfl, rfl⟩
instance : TyB Try.prog 88 [(0, 1), (1, 1), (2, 1)] := ⟨_, Try.underlying88, fun w => by kernel_rfl⟩
instance : TyA Try.prog 89 true := ⟨_, Try.underlying89, rfl⟩
instance : TyN Try.prog 89 3 72 (.agg #[.slice none 0 0, .slice none 0 0, .slice none 0 0]) := tyn_of (by kernel_rfl)
instance : TyF Try.prog 89 0 0 37 := ⟨_, _, Try.underlying89, rfl, rfl, rfl⟩
instance : TyF Try.prog 89 1 1 37 := ⟨_, _, Try.underlying89, rfl, rfl, rfl⟩
instance : TyF Try.prog 89 2 2 37 := ⟨_, _, Try.underlying89, rfl, rfl, rfl⟩
instance : TyB Try.prog 89 [(0, 1), (1, 1), (2, 1)] := ⟨_, Try.underlying89, fun w => by kernel_rfl⟩
instance : TyA Try.prog 90 false := ⟨_, Try.underlying90, rfl⟩
instance : TyN Try.prog 90 1 8 (.nilFunc) := tyn_of (by kernel_rfl)
instance : TyA Try.prog 91 false := ⟨_, Try.underlying91, rfl⟩
instance : TyN Try.prog 91 1 8 (.nilFunc) := tyn_of (by kernel_rfl)
instance : TyA Try.prog 92 false := ⟨_, Try.underlying92, rfl⟩
instance : TyN Try.prog 92 1 8 (.nilFunc) := tyn_of (by kernel_rfl)
instance : TyA Try.prog 93 false := ⟨_, Try.underlying93, rfl⟩
instance : TyN Try.prog 93 1 8 (.nilFunc) := tyn_of (by kernel_rfl)
instance : TyA Try.prog 94 false := ⟨_, Try.underlying94, rfl⟩
instance : TyN Try.prog 94 1 8 (.nilFunc) := tyn_of (by kernel_rfl)
instance : TyA Try.prog 95 false := ⟨_, Try.underlying95, rfl⟩
instance : TyN Try.prog 95 1 8 (.nilFunc) := tyn_of (by kernel_rfl)
instance : TyD Try.prog 96 (.int .i64) := ⟨Try.underlying96⟩
instance : TyA Try.prog 96 false := ⟨_, Try.underlying96, rfl⟩
instance : TyN Try.prog 96 1 8 (.int .i64 0) := tyn_of (by kernel_rfl)
instance : TyA Try.prog 98 false := ⟨_, Try.underlying98, rfl⟩
instance : TyN Try.prog 98 1 8 (.nilFunc) := tyn_of (by kernel_rfl)
instance : TyA Try.prog 99 false := ⟨_, Try.underlying99, rfl⟩
instance : TyN Try.prog 99 1 8 (.nilFunc) := tyn_of (by kernel_rfl)
instance : TyA Try.prog 100 false := ⟨_, Try.underlying100, rfl⟩
instance : TyN Try.prog 100 1 8 (.nilFunc) := tyn_of (by kernel_rfl)
instance : TyA Try.prog 101 false := ⟨_, Try.underlying101, rfl⟩
instance : TyN Try.prog 101 1 8 (.nilFunc) := tyn_of (by kernel_rfl)
instance : TyA Try.prog 102 false := ⟨_, Try.underlying102, rfl⟩
instance : TyN Try.prog 102 1 8 (.nilFunc) := tyn_of (by kernel_rfl)
instance : TyD Try.prog 103 (.int .u32) := ⟨Try.underlying103⟩
instance : TyA Try.prog 103 false := ⟨_, Try.underlying103, rfl⟩
instance : TyN Try.prog 103 1 4 (.int .u32 0) := tyn_of (by kernel_rfl)
instance : TyA Try.prog 104 false := ⟨_, Try.underlying104, rfl⟩
instance : TyN Try.prog 104 1 8 (.nilFunc) := tyn_of (by kernel_rfl)
instance : TyD Try.prog 105 (.int .u64) := ⟨Try.underlying105⟩
instance : TyA Try.prog 105 false := ⟨_, Try.underlying105, rfl⟩
instance : TyN Try.prog 105 1 8 (.int .u64 0) := tyn_of (by kernel_rfl)
instance : TyA Try.prog 106 false := ⟨_, Try.underlying106, rfl⟩
instance : TyN Try.prog 106 1 8 (.nilFunc) := tyn_of (by kernel_rfl)
instance : TyA Try.prog 107 false := ⟨_, Try.underlying107, rfl⟩
instance : TyN Try.prog 107 1 8 (.nilFunc) := tyn_of (by kernel_rfl)
instance : TyA Try.prog 108 false := ⟨_, Try.underlying108, rfl⟩
instance : TyN Try.prog 108 1 8 (.nilFunc) := tyn_of (by kernel_rfl)
instance : TyA Try.prog 109 false := ⟨_, Try.underlying109, rfl⟩
instance : TyN Try.prog 109 1 8 (.nilFunc) := tyn_of (by kernel_rfl)
instance : TyA Try.prog 110 false := ⟨_, Try.underlying110, rfl⟩
instance : TyN Try.prog 110 1 8 (.nilFunc) := tyn_of (by kernel_rfl)
instance : TyA Try.prog 111 false := ⟨_, Try.underlying111, rfl⟩
instance : TyN Try.prog 111 1 8 (.nilFunc) := tyn_of (by kernel_rfl)
instance : TyD Try.prog 112 (.int .u64) := ⟨Try.underlying112⟩
instance : TyA Try.prog 112 false := ⟨_, Try.underlying112, rfl⟩
instance : TyN Try.prog 112 1 8 (.int .u64 0) := tyn_of (by kernel_rfl)
instance : TyA Try.prog 113 false := ⟨_, Try.underlying113, rfl⟩
instance : TyN Try.prog 113 1 8 (.nilFunc) := tyn_of (by kernel_rfl)
instance : TyA Try.prog 114 false := ⟨_, Try.underlying114, rfl⟩
instance : TyN Try.prog 114 1 8 (.nilFunc) := tyn_of (by kernel_rfl)
instance : TyA Try.prog 115 false := ⟨_, Try.underlying115, rfl⟩
instance : TyN Try.prog 115 1 8 (.nilFunc) := tyn_of (by kernel_rfl)
instance : TyD Try.prog 116 (.pointer 3) := ⟨Try.underlying116⟩
instance : TyA Try.prog 116 false := ⟨_, Try.underlying116, rfl⟩
instance : TyN Try.prog 116 1 8 (.pointer none) := tyn_of (by kernel_rfl)
instance : TyA Try.prog 117 false := ⟨_, Try.underlying117, rfl⟩
instance : TyN Try.prog 117 1 8 (.nilFunc) := tyn_of (by kernel_rfl)
instance : TyA Try.prog 118 false := ⟨_, Try.underlying118, rfl⟩
instance : TyN Try.prog 118 1 8 (.nilFunc) := tyn_of (by kernel_rfl)
instance : TyA Try.prog 119 false := ⟨_, Try.underlying119, rfl⟩
instance : TyN Try.prog 119 1 8 (.nilFunc) := tyn_of (by kernel_rfl)
instance : TyD Try.prog 120 (.pointer 112) := ⟨Try.underlying120⟩
instance : TyA Try.prog 120 false := ⟨_, Try.underlying120, rfl⟩
instance : TyN Try.prog 120 1 8 (.pointer none) := tyn_of (by kernel_rfl)
instance : TyA Try.prog 122 false := ⟨_, Try.underlying122, rfl⟩
instance : TyN Try.prog 122 1 8 (.nilFunc) := tyn_of (by kernel_rfl)
instance : TyA Try.prog 123 false := ⟨_, Try.underlying123, rfl⟩
instance : TyN Try.prog 123 1 8 (.nilFunc) := tyn_of (by kernel_rfl)
instance : TyA Try.prog 124 false := ⟨_, Try.underlying124, rfl⟩
instance : TyN Try.prog 124 1 8 (.nilFunc) := tyn_of (by kernel_rfl)
instance : TyA Try.prog 132 false := ⟨_, Try.underlying132, rfl⟩
instance : TyN Try.prog 132 1 8 (.nilFunc) := tyn_of (by kernel_rfl)
instance : TyD Try.prog 133 (.pointer 5) := ⟨Try.underlying133⟩
instance : TyA Try.prog 133 false := ⟨_, Try.underlying133, rfl⟩
instance : TyN Try.prog 133 1 8 (.pointer none) := tyn_of (by kernel_rfl)
instance : FnB Try.prog 2 := ⟨_, Try.func2, by decide +kernel, rfl⟩
instance : FnB Try.prog 3 := ⟨_, Try.func3, by decide +kernel, rfl⟩
instance : FnB Try.prog 4 := ⟨_, Try.func4, by decide +kernel, rfl⟩
instance : FnB Try.prog 5 := ⟨_, Try.func5, by decide +kernel, rfl⟩
instance : FnB Try.prog 6 := ⟨_, Try.func6, by decide +kernel, rfl⟩
instance : FnB Try.prog 7 := ⟨_, Try.func7, by decide +kernel, rfl⟩
instance : FnB Try.prog 8 := ⟨_, Try.func8, by decide +kernel, rfl⟩
instance : FnB Try.prog 9 := ⟨_, Try.func9, by decide +kernel, rfl⟩
instance : FnB Try.prog 10 := ⟨_, Try.func10, by decide +kernel, rfl⟩
instance : FnB Try.prog 11 := ⟨_, Try.func11, by decide +kernel, rfl⟩
instance : FnB Try.prog 12 := ⟨_, Try.func12, by decide +kernel, rfl⟩
instance : FnB Try.prog 13 := ⟨_, Try.func13, by decide +kernel, rfl⟩
instance : FnB Try.prog 14 := ⟨_, Try.func14, by decide +kernel, rfl⟩
instance : FnB Try.prog 15 := ⟨_, Try.func15, by decide +kernel, rfl⟩
instance : FnB Try.prog 16 := ⟨_, Try.func16, by decide +kernel, rfl⟩
instance : FnB Try.prog 17 := ⟨_, Try.func17, by decide +kernel, rfl⟩
instance : FnB Try.prog 18 := ⟨_, Try.func18, by decide +kernel, rfl⟩
instance : FnB Try.prog 19 := ⟨_, Try.func19, by decide +kernel, rfl⟩
instance : FnB Try.prog 20 := ⟨_, Try.func20, by decide +kernel, rfl⟩
instance : FnB Try.prog 21 := ⟨_, Try.func21, by decide +kernel, rfl⟩
instance : FnB Try.prog 22 := ⟨_, Try.func22, by decide +kernel, rfl⟩
instance : FnB Try.prog 23 := ⟨_, Try.func23, by decide +kernel, rfl⟩
instance : FnB Try.prog 24 := ⟨_, Try.func24, by decide +kernel, rfl⟩
instance : FnB Try.prog 25 := ⟨_, Try.func25, by decide +kernel, rfl⟩
instance : FnB Try.prog 26 := ⟨_, Try.func26, by decide +kernel, rfl⟩
instance : FnB Try.prog 27 := ⟨_, Try.func27, by decide +kernel, rfl⟩
instance : FnB Try.prog 28 := ⟨_, Try.func28, by decide +kernel, rfl⟩
instance : FnB Try.prog 29 := ⟨_, Try.func29, by decide +kernel, rfl⟩
instance : FnB Try.prog 30 := ⟨_, Try.func30, by decide +kernel, rfl⟩
instance : FnB Try.prog 31 := ⟨_, Try.func31, by decide +kernel, rfl⟩
instance : FnB Try.prog 32 := ⟨_, Try.func32, by decide +kernel, rfl⟩
instance : FnB Try.prog 33 := ⟨_, Try.func33, by decide +kernel, rfl⟩
instance : FnB Try.prog 34 := ⟨_, Try.func34, by decide +kernel, rfl⟩
instance : FnB Try.prog 35 := ⟨_, Try.func35, by decide +kernel, rfl⟩
instance : FnB Try.prog 36 := ⟨_, Try.func36, by decide +kernel, rfl⟩
instance : FnB Try.prog 37 := ⟨_, Try.func37, by decide +kernel, rfl⟩
instance : FnB Try.prog 38 := ⟨_, Try.func38, by decide +kernel, rfl⟩
instance : FnB Try.prog 39 := ⟨_, Try.func39, by decide +kernel, rfl⟩
instance : FnB Try.prog 40 := ⟨_, Try.func40, by decide +kernel, rfl⟩
instance : FnB Try.prog 41 := ⟨_, Try.func41, by decide +kernel, rfl⟩
instance : FnB Try.prog 42 := ⟨_, Try.func42, by decide +kernel, rfl⟩
instance : FnB Try.prog 43 := ⟨_, Try.func43, by decide +kernel, rfl⟩
instance : FnB Try.prog 44 := ⟨_, Try.func44, by decide +kernel, rfl⟩
instance : FnB Try.prog 45 := ⟨_, Try.func45, by decide +kernel, rfl⟩
instance : FnB Try.prog 46 := ⟨_, Try.func46, by decide +kernel, rfl⟩
instance : FnB Try.prog 47 := ⟨_, Try.func47, by decide +kernel, rfl⟩
instance : FnB Try.prog 48 := ⟨_, Try.func48, by decide +kernel, rfl⟩
instance : FnB Try.prog 49 := ⟨_, Try.func49, by decide +kernel, rfl⟩
instance : FnB Try.prog 50 := ⟨_, Try.func50, by decide +kernel, rfl⟩
instance : FnB Try.prog 51 := ⟨_, Try.func51, by decide +kernel, rfl⟩
instance : FnB Try.prog 52 := ⟨_, Try.func52, by decide +kernel, rfl⟩
instance : FnB Try.prog 53 := ⟨_, Try.func53, by decide +kernel, rfl⟩
instance : FnB Try.prog 54 := ⟨_, Try.func54, by decide +kernel, rfl⟩
instance : FnB Try.prog 55 := ⟨_, Try.func55, by decide +kernel, rfl⟩
instance : FnB Try.prog 56 := ⟨_, Try.func56, by decide +kernel, rfl⟩
instance : FnB Try.prog 57 := ⟨_, Try.func57, by decide +kernel, rfl⟩
instance : FnB Try.prog 58 := ⟨_, Try.func58, by decide +kernel, rfl⟩
instance : FnB Try.prog 59 := ⟨_, Try.func59, by decide +kernel, rfl⟩
instance : FnB Try.prog 60 := ⟨_, Try.func60, by decide +kernel, rfl⟩
instance : FnB Try.prog 61 := ⟨_, Try.func61, by decide +kernel, rfl⟩
instance : FnB Try.prog 62 := ⟨_, Try.func62, by decide +kernel, rfl⟩
instance : FnB Try.prog 63 := ⟨_, Try.func63, by decide +kernel, rfl⟩
instance : FnB Try.prog 64 := ⟨_, Try.func64, by decide +kernel, rfl⟩
instance : FnB Try.prog 65 := ⟨_, Try.func65, by decide +kernel, rfl⟩
instance : FnB Try.prog 66 := ⟨_, Try.func66, by decide +kernel, rfl⟩
instance : FnB Try.prog 67 := ⟨_, Try.func67, by decide +kernel, rfl⟩
instance : FnB Try.prog 68 := ⟨_, Try.func68, by decide +kernel, rfl⟩
instance : FnB Try.prog 69 := ⟨_, Try.func69, by decide +kernel, rfl⟩
instance : FnB Try.prog 70 := ⟨_, Try.func70, by decide +kernel, rfl⟩
instance : FnB Try.prog 71 := ⟨_, Try.func71, by decide +kernel, rfl⟩
instance : FnB Try.prog 72 := ⟨_, Try.func72, by decide +kernel, rfl⟩
instance : FnB Try.prog 73 := ⟨_, Try.func73, by decide +kernel, rfl⟩
instance : FnB Try.prog 74 := ⟨_, Try.func74, by decide +kernel, rfl⟩
instance : FnB Try.prog 75 := ⟨_, Try.func75, by decide +kernel, rfl⟩
instance : FnB Try.prog 77 := ⟨_, Try.func77, by decide +kernel, rfl⟩
instance : FnB Try.prog 78 := ⟨_, Try.func78, by decide +kernel, rfl⟩
instance : FnB Try.prog 79 := ⟨_, Try.func79, by decide +kernel, rfl⟩
instance : FnB Try.prog 80 := ⟨_, Try.func80, by decide +kernel, rfl⟩
instance : FnB Try.prog 81 := ⟨_, Try.func81, by decide +kernel, rfl⟩
instance : FnB Try.prog 82 := ⟨_, Try.func82, by decide +kernel, rfl⟩
instance : FnB Try.prog 83 := ⟨_, Try.func83, by decide +kernel, rfl⟩
instance : FnB Try.prog 84 := ⟨_, Try.func84, by decide +kernel, rfl⟩
instance : FnB Try.prog 85 := ⟨_, Try.func85, by decide +kernel, rfl⟩
instance : FnB Try.prog 86 := ⟨_, Try.func86, by decide +kernel, rfl⟩
instance : FnB Try.prog 87 := ⟨_, Try.func87, by decide +kernel, rfl⟩
instance : FnB Try.prog 88 := ⟨_, Try.func88, by decide +kernel, rfl⟩
instance : FnB Try.prog 89 := ⟨_, Try.func89, by decide +kernel, rfl⟩
instance : FnB Try.prog 90 := ⟨_, Try.func90, by decide +kernel, rfl⟩
instance : FnB Try.prog 91 := ⟨_, Try.func91, by decide +kernel, rfl⟩
instance : FnB Try.prog 92 := ⟨_, Try.func92, by decide +kernel, rfl⟩
instance : FnB Try.prog 93 := ⟨_, Try.func93, by decide +kernel, rfl⟩
instance : FnB Try.prog 94 := ⟨_, Try.func94, by decide +kernel, rfl⟩
instance : FnB Try.prog 95 := ⟨_, Try.func95, by decide +kernel, rfl⟩
instance : FnB Try.prog 96 := ⟨_, Try.func96, by decide +kernel, rfl⟩
instance : FnB Try.prog 97 := ⟨_, Try.func97, by decide +kernel, rfl⟩
instance : FnB Try.prog 98 := ⟨_, Try.func98, by decide +kernel, rfl⟩
instance : FnB Try.prog 99 := ⟨_, Try.func99, by decide +kernel, rfl⟩
instance : FnB Try.prog 100 := ⟨_, Try.func100, by decide +kernel, rfl⟩
instance : FnB Try.prog 101 := ⟨_, Try.func101, by decide +kernel, rfl⟩
instance : FnB Try.prog 102 := ⟨_, Try.func102, by decide +kernel, rfl⟩
instance : FnB Try.prog 103 := ⟨_, Try.func103, by decide +kernel, rfl⟩
instance : FnB Try.prog 104 := ⟨_, Try.func104, by decide +kernel, rfl⟩
instance : FnB Try.prog 105 := ⟨_, Try.func105, by decide +kernel, rfl⟩
instance : FnB Try.prog 106 := ⟨_, Try.func106, by decide +kernel, rfl⟩
instance : FnB Try.prog 107 := ⟨_, Try.func107, by decide +kernel, rfl⟩
instance : FnB Try.prog 108 := ⟨_, Try.func108, by decide +kernel, rfl⟩
instance : FnOv Try.prog 76 37 := ⟨_, 4, Try.func76, by decide +kernel, rfl, by kernel_rfl, by kernel_rfl⟩
end Go.Proofs.Ytnkhlbljnmodbaa
/- Graphs, their edges, and what the functions on them compute. No program in sight. -/
namespace Go.Pl
open Go.RT
set_option linter.all false
def cmpI (a b : Int) : Int := if a < b then -1 else if a > b then 1 else 0
instance (k : IntKind) (n : Int) : Decidable (inr k n) := by cases k <;> unfold inr <;> infer_instance
structure Edg where
  f : Int
  t : Int
  c : Int
  deriving DecidableEq
structure Gr where
  r : Int
  n : Int
  es : List Edg
  deriving DecidableEq
def encE (e : Edg) : List FV := [If .i64 e.f, If .i64 e.t, If .i64 e.c]
abbrev VE (l : List Edg) : FV := .vals 3 (l.map encE)
def encG (g : Gr) : List FV := [If .i64 g.r, If .i64 g.n, VE g.es]
def encN (x : Int) : List FV := [If .i64 x]
abbrev VI (l : List Int) : FV := .vals 1 (l.map encN)
def encB (x : Bool) : List FV := [Bf x]
def okE (e : Edg) : Prop := inr .i64 e.f ∧ inr .i64 e.t ∧ inr .i64 e.c
def okEs (l : List Edg) : Prop := ∀ e ∈ l, okE e
def okG (g : Gr) : Prop := inr .i64 g.r ∧ inr .i64 g.n ∧ okEs g.es
def ordE (a b : Edg) : Int := if cmpI a.f b.f ≠ 0 then cmpI a.f b.f else cmpI a.t b.t
def befB (a b : Edg) : Bool := decide (a.f < b.f) || decide (a.f = b.f) && decide (a.t < b.t)
theorem ordE_ge (a b : Edg) : decide (0 ≤ ordE a b) = !befB a b := by
  rw [Bool.eq_iff_iff]
  unfold ordE cmpI befB
  simp only [decide_eq_true_eq, Bool.not_eq_true', Bool.or_eq_false_iff, decide_eq_false_iff_not, Bool.and_eq_false_iff]
  by_cases h1 : a.f < b.f
  · simp [h1]
  · by_cases h2 : a.f > b.f
    · have : ¬ a.f = b.f := by omega
      simp [h1, h2, this]
    · have : a.f = b.f := by omega
      simp [this]
      by_cases h3 : a.t < b.t
      · simp [h3]
      · by_cases h4 : a.t > b.t <;> simp [h3, h4] <;> omega
def szOk (g : Gr) : Prop := 0 ≤ g.r ∧ 0 ≤ g.n ∧ g.r + g.n ≤ 128
def sizeI (g : Gr) : Int := if g.r < 0 ∨ g.n < 0 then 5 else if g.r > 128 ∨ g.n > 128 ∨ g.r + g.n > 128 ∨ 1024 < g.es.length then 4 else 0
def nodeB (g : Gr) (x : Int) : Bool := decide (0 ≤ x) && decide (x < g.r + g.n)
def alwI (g : Gr) (e : Edg) : Int := if nodeB g e.f = false ∨ nodeB g e.t = false then 5 else
  if e.f = e.t ∨ (g.r ≤ e.f ∧ g.r ≤ e.t) ∨ (g.r ≤ e.f ∧ e.c ≠ 0) ∨ (e.f < g.r ∧ (e.c < 1 ∨ 65535 < e.c)) then 1 else 0
theorem sizeI_ok {g : Gr} (h : sizeI g = 0) : szOk g ∧ g.es.length ≤ 1024 := by
  unfold sizeI at h
  by_cases h1 : g.r < 0 ∨ g.n < 0
  · rw [if_pos h1] at h; cases h
  · rw [if_neg h1] at h
    by_cases h2 : g.r > 128 ∨ g.n > 128 ∨ g.r + g.n > 128 ∨ 1024 < g.es.length
    · rw [if_pos h2] at h; cases h
    · exact ⟨⟨by omega, by omega, by omega⟩, by omega⟩
def badP : Option Edg → Edg → Bool
  | some q, e => !befB q e
  | none, _ => false
def chkL (g : Gr) : Option Edg → List Edg → Int
  | _, [] => 0
  | p, e :: l => if alwI g e ≠ 0 then alwI g e else if badP p e = true then 16 else chkL g (some e) l
def checkI (g : Gr) : Int := if sizeI g ≠ 0 then sizeI g else chkL g none g.es
def prevO (l : List Edg) (i : Nat) : Option Edg := if i = 0 then none else l[i - 1]?
theorem prevO_succ {l : List Edg} {i : Nat} (h : i < l.length) : prevO l (i + 1) = some l[i] := by simp [prevO, h]
/-- one round of the check -/
theorem chk_step {g : Gr} {l : List Edg} {i : Nat} (h : i < l.length) : chkL g (prevO l i) (l.drop i) = if alwI g l[i] ≠ 0 then alwI g l[i] else if badP (prevO l i) l[i] = true then 16 else chkL g (prevO l (i + 1)) (l.drop (i + 1)) := by
  rw [List.drop_eq_getElem_cons h, prevO_succ h]; rfl
theorem row_at' {α : Type} (f : α → List FV) (l : List α) (i : Nat) (h : i < l.length) : (l.map f)[i]? = some (f l[i]) := by simp [h]
theorem take_len_eq' {α : Type} {l : List α} {i : Nat} (h : i = l.length) : l.take i = l := by subst h; exact List.take_length
end Go.Pl
namespace Go.Pl
def orI : List Int → Int
  | [] => 0
  | x :: l => if x ≠ 0 then x else orI l
end Go.Pl
namespace Go.Proofs.Ytnkhlbljnmodbaa
open Go Go.RT Go.Proofs Go.Pl
set_option linter.all false
set_option maxRecDepth 20000
theorem nan_c (a : Int) : Pure Try.prog 73 [If .i64 a] (Bf false) := by
 rw [show (false) = decide (a ≠ a) by simp]
 refine Meets.intro Try.func73 rfl (Nat.le_of_ble_eq_true rfl) fun C hC => ?_
 simp only [List.map, argEnv, Nat.reduceAdd]
 refine nK ?_
 refine s_reg rfl ?_
 refine rp 2 rfl (op_assign rfl oC) ?_
 refine rn ?_
 refine nK ?_
 refine s_reg rfl ?_
 refine rm 3 rfl rfl rfl ?_
 refine rm 4 rfl rfl rfl ?_
 refine rp 5 rfl (op_neq rfl (oT rfl) (oT rfl)) ?_
 refine ra 2 rfl rfl rfl ?_
 refine rn ?_
 refine nK ?_
 (first | exact s_o1 hC rfl tV | exact s_o2 hC rfl tV tV | exact s_o3 hC rfl tV tV tV | exact s_out0 hC rfl | exact s_outO hC rfl rfl rfl)
theorem cmp_c (a b : Int) : Pure Try.prog 59 [If .i64 a, If .i64 b] (If .i64 (cmpI a b)) := by
 refine Meets.intro Try.func59 rfl (Nat.le_of_ble_eq_true rfl) fun C hC => ?_
 simp only [List.map, argEnv, Nat.reduceAdd]
 refine nK ?_
 refine s_reg rfl ?_
 refine rp 4 rfl (op_assign rfl oC) ?_
 refine rn ?_
 refine nK ?_
 refine s_reg rfl ?_
 refine rm 7 rfl rfl rfl ?_
 refine rp 8 rfl (op_call_pure (fun _ => nan_c _) rfl (Opd.func _) (oS (oT rfl) Opds.nil)) ?_
 refine ra 5 rfl rfl rfl ?_
 refine rn ?_
 refine nK ?_
 refine s_reg rfl ?_
 refine rm 9 rfl rfl rfl ?_
 refine rp 10 rfl (op_call_pure (fun _ => nan_c _) rfl (Opd.func _) (oS (oT rfl) Opds.nil)) ?_
 refine ra 6 rfl rfl rfl ?_
 refine rn ?_
 refine nK ?_
 refine s_reg rfl ?_
 refine rm 11 rfl rfl rfl ?_
 refine rn ?_
 refine nK ?_
 refine n_cond _ rfl (fun hb => ?_) (fun hb => ?_)
 ·cases hb
 ·refine nK ?_
  refine s_reg rfl ?_
  refine rm 13 rfl rfl rfl ?_
  refine rn ?_
  refine nK ?_
  refine n_cond _ rfl (fun hb => ?_) (fun hb => ?_)
  ·cases hb
  ·unfold cmpI
   refine nK ?_
   refine s_reg rfl ?_
   refine rm 14 rfl rfl rfl ?_
   refine rm 15 rfl rfl rfl ?_
   refine rp 16 rfl (op_lss rfl (oT rfl) (oT rfl)) ?_
   refine rn ?_
   refine nK ?_
   refine n_cond _ rfl (fun hb => ?_) (fun hb => ?_)
   ·rw [if_pos (by simpa using hb)]
    refine nK ?_
    refine s_reg rfl ?_
    refine rp 4 rfl (op_assign rfl oC) ?_
    refine rn ?_
    refine nK ?_
    (first | exact s_o1 hC rfl tV | exact s_o2 hC rfl tV tV | exact s_o3 hC rfl tV tV tV | exact s_out0 hC rfl | exact s_outO hC rfl rfl rfl)
   ·rw [if_neg (by simpa using hb)]
    refine nK ?_
    refine s_reg rfl ?_
    refine rm 17 rfl rfl rfl ?_
    refine rm 18 rfl rfl rfl ?_
    refine rp 19 rfl (op_gtr rfl (oT rfl) (oT rfl)) ?_
    refine rn ?_
    refine nK ?_
    refine n_cond _ rfl (fun hb => ?_) (fun hb => ?_)
    ·rw [if_pos (by simpa using hb)]
     refine nK ?_
     refine s_reg rfl ?_
     refine rp 4 rfl (op_assign rfl oC) ?_
     refine rn ?_
     refine nK ?_
     (first | exact s_o1 hC rfl tV | exact s_o2 hC rfl tV tV | exact s_o3 hC rfl tV tV tV | exact s_out0 hC rfl | exact s_outO hC rfl rfl rfl)
    ·rw [if_neg (by simpa using hb)]
     refine nK ?_
     refine s_reg rfl ?_
     refine rp 4 rfl (op_assign rfl oC) ?_
     refine rn ?_
     refine nK ?_
     (first | exact s_o1 hC rfl tV | exact s_o2 hC rfl tV tV | exact s_o3 hC rfl tV tV tV | exact s_out0 hC rfl | exact s_outO hC rfl rfl rfl)
theorem or_c (l : List Int) (hn : l.length ≤ 1000000) : Pure Try.prog 58 [VI l] (If .i64 (orI l)) := by
 refine Meets.intro Try.func58 rfl (Nat.le_of_ble_eq_true rfl) fun C hC => ?_
 simp only [List.map, argEnv, Nat.reduceAdd]
 refine nK ?_
 refine s_reg rfl ?_
 refine rp 2 rfl (op_assign rfl oC) ?_
 refine rn ?_
 refine nK ?_
 refine s_reg rfl ?_
 refine rp 3 rfl (op_assign rfl oC) ?_
 refine rn ?_
 refine nK ?_
 refine s_reg rfl ?_
 refine rm 6 rfl rfl rfl ?_
 refine rp 7 rfl (op_len_fz rfl (by first | exact Opd.tmp _ _ rfl | exact Opd.nil _ _ (oT rfl)) (by first | exact List.length_map _ | rfl)) ?_
 refine rp 8 rfl (op_move rfl oC) ?_
 refine rn ?_
 refine nK ?_
 refine n_loop (ι := Nat) (fun i => ([(3, IV .i64 0), (6, .fz (VI l)), (7, IV .i64 l.length), (8, IV .i64 i)], [], 0)) (fun i => i ≤ l.length ∧ orI (l.drop i) = orI l) (fun i => l.length - i) 0 ⟨Nat.zero_le _, rfl⟩ ?_ ?_
 ·refine Next.weak [] [] (by rfl) (keeps0 hC _) (by repeat (first | exact trivial | refine ⟨⟨_, rfl, .inl ⟨rfl, rfl⟩⟩, ?_⟩)) (by repeat (first | exact trivial | refine ⟨ent_same rfl rfl rfl tL, ?_⟩ | refine ⟨ent_same rfl rfl (rfEq rfl tU) tL, ?_⟩ | refine ⟨ent_same rfl rfl (flEq rfl (by first | (simp; done) | (simp; omega) | (simp [encP]; done) | simp [maxC, minC])) trivial, ?_⟩)) (fun _ h => by simp at h) rel_intro
 ·intro i ⟨hi, ho⟩ K hK
  refine nK ?_
  refine s_reg rfl ?_
  refine rp 9 rfl (op_lss rfl (oT rfl) (oT rfl)) ?_
  refine rn ?_
  refine nK ?_
  refine n_cond _ rfl (fun hb => ?_) (fun hb => ?_)
  ·have hlt : i < l.length := by simp at hb; omega
   have hr1 := row_at' encN l i hlt
   rw [List.drop_eq_getElem_cons hlt] at ho
   simp only [orI] at ho
   have hK1 := fun h => hK (i + 1) ⟨by omega, h⟩ (by omega)
   generalize l[i] = x at *
   refine nK ?_
   refine s_reg rfl ?_
   refine rp 10 rfl (op_idx_fz _ rfl (oT rfl) (oT rfl) tF) ?_
   refine rp 11 rfl (op_load1_fz rfl (oT rfl) rfl) ?_
   refine ra 5 rfl rfl rfl ?_
   refine rn ?_
   refine nK ?_
   refine s_reg rfl ?_
   refine rm 12 rfl rfl rfl ?_
   refine rm 13 rfl rfl rfl ?_
   refine rp 14 rfl (op_neq rfl (oT rfl) (oT rfl)) ?_
   refine rn ?_
   refine nK ?_
   refine n_cond _ rfl (fun hb => ?_) (fun hb => ?_)
   ·rw [if_pos (by simpa using hb)] at ho
    rw [← ho]
    refine nK ?_
    refine s_reg rfl ?_
    refine rm 15 rfl rfl rfl ?_
    refine ra 2 rfl rfl rfl ?_
    refine rn ?_
    refine nK ?_
    (first | exact s_o1 hC rfl tV | exact s_o2 hC rfl tV tV | exact s_o3 hC rfl tV tV tV | exact s_out0 hC rfl | exact s_outO hC rfl rfl rfl)
   ·rw [if_neg (by simpa using hb)] at ho
    refine nK ?_
    refine s_reg rfl ?_
    refine rp 16 rfl (op_add rfl (oT rfl) oC tI) ?_
    refine rm 8 rfl rfl rfl ?_
    refine rn ?_
    refine nK ?_
    refine Next.weak [] [] (by rfl) (keeps0 hC _) (by repeat (first | exact trivial | refine ⟨⟨_, rfl, .inl ⟨rfl, rfl⟩⟩, ?_⟩)) (by repeat (first | exact trivial | refine ⟨ent_same rfl rfl rfl tL, ?_⟩ | refine ⟨ent_same rfl rfl (rfEq rfl tU) tL, ?_⟩ | refine ⟨ent_same rfl rfl (flEq rfl (by first | (simp; done) | (simp; omega) | (simp [encP]; done) | simp [maxC, minC])) trivial, ?_⟩)) (fun _ h => by simp at h) (hK1 ho)
  ·have hie : i = l.length := by simp at hb; omega
   rw [hie, List.drop_length] at ho
   rw [← ho]
   refine nK ?_
   refine s_reg rfl ?_
   refine rm 17 rfl rfl rfl ?_
   refine ra 2 rfl rfl rfl ?_
   refine rn ?_
   refine nK ?_
   (first | exact s_o1 hC rfl tV | exact s_o2 hC rfl tV tV | exact s_o3 hC rfl tV tV tV | exact s_out0 hC rfl | exact s_outO hC rfl rfl rfl)
theorem order_c (a b : Edg) : Pure Try.prog 51 [.agg (encE a), .agg (encE b)] (If .i64 (ordE a b)) := by
 have e : ordE a b = orI [cmpI a.f b.f, cmpI a.t b.t] := by
  unfold ordE orI
  simp only [orI]
  by_cases h : cmpI a.f b.f = 0
  ·by_cases h2 : cmpI a.t b.t = 0 <;> simp [h, h2]
  ·simp [h]
 have ho := or_c [cmpI a.f b.f, cmpI a.t b.t] (by simp)
 rw [← e] at ho
 refine Meets.intro Try.func51 rfl (Nat.le_of_ble_eq_true rfl) fun C hC => ?_
 simp only [List.map, argEnv, Nat.reduceAdd]
 refine nK ?_
 refine s_reg rfl ?_
 refine Run.eff (dd := some 2) rfl rfl (op_box_flat rfl (oT rfl) tC rfl) ?_
 refine Run.eff (dd := some 3) rfl rfl (op_box_flat rfl (oT rfl) tC rfl) ?_
 refine rp 4 rfl (op_assign rfl oC) ?_
 refine rn ?_
 refine nK ?_
 refine s_draw mixed ?_
 refine rp 5 rfl (op_fld_ptr (by decide) rfl (oT rfl)) ?_
 refine rl 6 rfl (op_load1_flat rfl (oT rfl) tH rfl) ?_
 refine rp 7 rfl (op_fld_ptr (by decide) rfl (oT rfl)) ?_
 refine rl 8 rfl (op_load1_flat rfl (oT rfl) tH rfl) ?_
 refine rp 9 rfl (op_call_pure (fun _ => cmp_c _ _) rfl (Opd.func _) (oS (oT rfl) (oS (oT rfl) Opds.nil))) ?_
 refine rp 10 rfl (op_fld_ptr (by decide) rfl (oT rfl)) ?_
 refine rl 11 rfl (op_load1_flat rfl (oT rfl) tH rfl) ?_
 refine rp 12 rfl (op_fld_ptr (by decide) rfl (oT rfl)) ?_
 refine rl 13 rfl (op_load1_flat rfl (oT rfl) tH rfl) ?_
 refine rp 14 rfl (op_call_pure (fun _ => cmp_c _ _) rfl (Opd.func _) (oS (oT rfl) (oS (oT rfl) Opds.nil))) ?_
 refine rp 15 rfl (op_buildSlice_fz rfl (RowsF.cons _ _ _ _ _ _ (oT rfl) tC (by rfl) (RowsF.cons _ _ _ _ _ _ (oT rfl) tC (by rfl) (RowsF.nil _))) rfl rfl) ?_
 refine rp 16 rfl (op_call_pure (fun _ => ho) rfl (Opd.func _) (oS (oT rfl) Opds.nil)) ?_
 refine ra 4 rfl rfl rfl ?_
 refine Run.nil (FinD.mk (by kernel_rfl) ?_)
 refine nK ?_
 (first | exact s_o1 hC rfl tV | exact s_o2 hC rfl tV tV | exact s_o3 hC rfl tV tV tV | exact s_out0 hC rfl | exact s_outO hC rfl rfl rfl)
theorem before_c (a b : Edg) : Pure Try.prog 32 [.agg (encE a), .agg (encE b)] (Bf (befB a b)) := by
 refine Meets.intro Try.func32 rfl (Nat.le_of_ble_eq_true rfl) fun C hC => ?_
 simp only [List.map, argEnv, Nat.reduceAdd]
 refine nK ?_
 refine s_reg rfl ?_
 refine Run.eff (dd := some 2) rfl rfl (op_box_flat rfl (oT rfl) tC rfl) ?_
 refine Run.eff (dd := some 3) rfl rfl (op_box_flat rfl (oT rfl) tC rfl) ?_
 refine rp 4 rfl (op_assign rfl oC) ?_
 refine rn ?_
 refine nK ?_
 refine s_reg rfl ?_
 refine rp 5 rfl (op_fld_ptr (by decide) rfl (oT rfl)) ?_
 refine rl 6 rfl (op_load1_flat rfl (oT rfl) tH rfl) ?_
 refine rp 7 rfl (op_fld_ptr (by decide) rfl (oT rfl)) ?_
 refine rl 8 rfl (op_load1_flat rfl (oT rfl) tH rfl) ?_
 refine rp 9 rfl (op_lss rfl (oT rfl) (oT rfl)) ?_
 refine rm 10 rfl rfl rfl ?_
 refine rg 11 rfl rfl tG (op_fld_ptr (by decide) rfl (oT rfl)) ?_
 refine rk 12 rfl rfl tG (op_load1_flat rfl (oO rfl tO) tH rfl) ?_
 refine rg 13 rfl rfl tG (op_fld_ptr (by decide) rfl (oT rfl)) ?_
 refine rk 14 rfl rfl tG (op_load1_flat rfl (oO rfl tO) tH rfl) ?_
 refine rg 15 rfl rfl tG (op_eql rfl (oO rfl tO) (oO rfl tO)) ?_
 refine rg 16 rfl rfl tG (op_move rfl (oO rfl tO)) ?_
 refine rg 17 rfl rfl tG (op_fld_ptr (by decide) rfl (oT rfl)) ?_
 refine rk 18 rfl rfl tG (op_load1_flat rfl (oO rfl tO) tH rfl) ?_
 refine rg 19 rfl rfl tG (op_fld_ptr (by decide) rfl (oT rfl)) ?_
 refine rk 20 rfl rfl tG (op_load1_flat rfl (oO rfl tO) tH rfl) ?_
 refine rg 21 rfl rfl tG (op_lss rfl (oO rfl tO) (oO rfl tO)) ?_
 refine rg 22 rfl rfl tG (op_pick_and rfl (oO rfl tO) (oO rfl tO)) ?_
 refine rp 23 rfl (op_pick_or rfl (oT rfl) (oO rfl tO)) ?_
 refine ra 4 rfl rfl rfl ?_
 refine rn ?_
 refine nK ?_
 (first | exact s_o1 hC rfl tV | exact s_o2 hC rfl tV tV | exact s_o3 hC rfl tV tV tV | exact s_out0 hC rfl | exact s_outO hC rfl rfl rfl)
theorem size_c (g : Gr) (hg : okG g) : Pure Try.prog 49 [.agg (encG g)] (If .i64 (sizeI g)) := by
 obtain ⟨g1, g2, g3⟩ := hg
 simp only [inr] at g1 g2
 unfold sizeI
 refine Meets.intro Try.func49 rfl (Nat.le_of_ble_eq_true rfl) fun C hC => ?_
 simp only [List.map, argEnv, Nat.reduceAdd]
 refine nK ?_
 refine s_reg rfl ?_
 refine Run.eff (dd := some 1) rfl rfl (op_box_flat rfl (oT rfl) tC rfl) ?_
 refine rp 2 rfl (op_assign rfl oC) ?_
 refine rn ?_
 refine nK ?_
 refine s_reg rfl ?_
 refine rp 4 rfl (op_fld_ptr (by decide) rfl (oT rfl)) ?_
 refine rl 5 rfl (op_load1_flat rfl (oT rfl) tH rfl) ?_
 refine rp 6 rfl (op_lss rfl (oT rfl) oC) ?_
 refine rm 7 rfl rfl rfl ?_
 refine rg 8 rfl rfl tG (op_fld_ptr (by decide) rfl (oT rfl)) ?_
 refine rk 9 rfl rfl tG (op_load1_flat rfl (oO rfl tO) tH rfl) ?_
 refine rg 10 rfl rfl tG (op_lss rfl (oO rfl tO) oC) ?_
 refine rp 11 rfl (op_pick_or rfl (oT rfl) (oO rfl tO)) ?_
 refine ra 3 rfl rfl rfl ?_
 refine rn ?_
 refine nK ?_
 refine n_cond _ rfl (fun hb => ?_) (fun hb => ?_)
 ·rw [if_pos (by simpa using hb)]
  refine nK ?_
  refine s_reg rfl ?_
  refine rp 2 rfl (op_assign rfl oC) ?_
  refine rn ?_
  refine nK ?_
  (first | exact s_o1 hC rfl tV | exact s_o2 hC rfl tV tV | exact s_o3 hC rfl tV tV tV | exact s_out0 hC rfl | exact s_outO hC rfl rfl rfl)
 ·rw [if_neg (by simp at hb; omega)]
  have h0 : 0 ≤ g.r ∧ 0 ≤ g.n := by simp at hb; omega
  refine nK ?_
  refine s_reg rfl ?_
  refine rp 13 rfl (op_fld_ptr (by decide) rfl (oT rfl)) ?_
  refine rl 14 rfl (op_load1_flat rfl (oT rfl) tH rfl) ?_
  refine rp 15 rfl (op_gtr rfl (oT rfl) oC) ?_
  refine rm 16 rfl rfl rfl ?_
  refine rg 17 rfl rfl tG (op_fld_ptr (by decide) rfl (oT rfl)) ?_
  refine rk 18 rfl rfl tG (op_load1_flat rfl (oO rfl tO) tH rfl) ?_
  refine rg 19 rfl rfl tG (op_gtr rfl (oO rfl tO) oC) ?_
  refine rp 20 rfl (op_pick_or rfl (oT rfl) (oO rfl tO)) ?_
  refine rm 21 rfl rfl rfl ?_
  refine rg 22 rfl rfl tG (op_fld_ptr (by decide) rfl (oT rfl)) ?_
  refine rk 23 rfl rfl tG (op_load1_flat rfl (oO rfl tO) tH rfl) ?_
  refine rg 24 rfl rfl tG (op_fld_ptr (by decide) rfl (oT rfl)) ?_
  refine rk 25 rfl rfl tG (op_load1_flat rfl (oO rfl tO) tH rfl) ?_
  refine rg 26 rfl rfl tG (op_add rfl (oO rfl tO) (oO rfl tO) tI) ?_
  refine rg 27 rfl rfl tG (op_gtr rfl (oO rfl tO) oC) ?_
  refine rp 28 rfl (op_pick_or rfl (oT rfl) (oO rfl tO)) ?_
  refine rm 29 rfl rfl rfl ?_
  refine rg 30 rfl rfl tG (op_fld_ptr (by decide) rfl (oT rfl)) ?_
  refine rk 31 rfl rfl tG (op_load1_flat rfl (oO rfl tO) tH rfl) ?_
  refine rg 32 rfl rfl tG (op_len_fz rfl (by first | exact Opd.topt _ _ _ rfl tO | exact Opd.nil _ _ (oO rfl tO)) (by first | exact List.length_map _ | rfl)) ?_
  refine rg 33 rfl rfl tG (op_gtr rfl (oO rfl tO) oC) ?_
  refine rp 34 rfl (op_pick_or rfl (oT rfl) (oO rfl tO)) ?_
  refine ra 12 rfl rfl rfl ?_
  refine rn ?_
  refine nK ?_
  refine n_cond _ rfl (fun hb => ?_) (fun hb => ?_)
  ·rw [if_pos (by simp at hb; omega)]
   refine nK ?_
   refine s_reg rfl ?_
   refine rp 2 rfl (op_assign rfl oC) ?_
   refine rn ?_
   refine nK ?_
   (first | exact s_o1 hC rfl tV | exact s_o2 hC rfl tV tV | exact s_o3 hC rfl tV tV tV | exact s_out0 hC rfl | exact s_outO hC rfl rfl rfl)
  ·rw [if_neg (by simp at hb; omega)]
   refine nK ?_
   refine s_reg rfl ?_
   refine rp 2 rfl (op_assign rfl oC) ?_
   refine rn ?_
   refine nK ?_
   (first | exact s_o1 hC rfl tV | exact s_o2 hC rfl tV tV | exact s_o3 hC rfl tV tV tV | exact s_out0 hC rfl | exact s_outO hC rfl rfl rfl)
theorem isnode_c (g : Gr) (x : Int) (hs : szOk g) : Pure Try.prog 65 [.agg (encG g), If .i64 x] (Bf (nodeB g x)) := by
 obtain ⟨h1, h2, h3⟩ := hs
 refine Meets.intro Try.func65 rfl (Nat.le_of_ble_eq_true rfl) fun C hC => ?_
 simp only [List.map, argEnv, Nat.reduceAdd]
 refine nK ?_
 refine s_reg rfl ?_
 refine Run.eff (dd := some 2) rfl rfl (op_box_flat rfl (oT rfl) tC rfl) ?_
 refine rp 4 rfl (op_assign rfl oC) ?_
 refine rn ?_
 refine nK ?_
 refine s_reg rfl ?_
 refine rm 5 rfl rfl rfl ?_
 refine rp 6 rfl (op_geq rfl (oT rfl) oC) ?_
 refine rm 7 rfl rfl rfl ?_
 refine gm 8 rfl rfl tG rfl rfl ?_
 refine rg 9 rfl rfl tG (op_fld_ptr (by decide) rfl (oT rfl)) ?_
 refine rk 10 rfl rfl tG (op_load1_flat rfl (oO rfl tO) tH rfl) ?_
 refine rg 11 rfl rfl tG (op_fld_ptr (by decide) rfl (oT rfl)) ?_
 refine rk 12 rfl rfl tG (op_load1_flat rfl (oO rfl tO) tH rfl) ?_
 refine rg 13 rfl rfl tG (op_add rfl (oO rfl tO) (oO rfl tO) tI) ?_
 refine rg 14 rfl rfl tG (op_lss rfl (oO rfl tO) (oO rfl tO)) ?_
 refine rp 15 rfl (op_pick_and rfl (oT rfl) (oO rfl tO)) ?_
 refine ra 4 rfl rfl rfl ?_
 refine rn ?_
 refine nK ?_
 (first | exact s_o1 hC rfl tV | exact s_o2 hC rfl tV tV | exact s_o3 hC rfl tV tV tV | exact s_out0 hC rfl | exact s_outO hC rfl rfl rfl)
theorem rnode_c (g : Gr) (x : Int) (hs : szOk g) (hx : inr .i64 x) : Pure Try.prog 41 [.agg (encG g), If .i64 x] (Bf (nodeB g x)) := by
 obtain ⟨h1, h2, h3⟩ := hs
 simp only [inr] at hx
 have e : nodeB g x = (decide (0 ≤ x) && (decide (x < g.r) || decide (x - g.r < g.n))) := by
  unfold nodeB; rw [Bool.eq_iff_iff]; simp; omega
 rw [e]
 refine Meets.intro Try.func41 rfl (Nat.le_of_ble_eq_true rfl) fun C hC => ?_
 simp only [List.map, argEnv, Nat.reduceAdd]
 refine nK ?_
 refine s_reg rfl ?_
 refine Run.eff (dd := some 2) rfl rfl (op_box_flat rfl (oT rfl) tC rfl) ?_
 refine rp 4 rfl (op_assign rfl oC) ?_
 refine rn ?_
 refine nK ?_
 refine s_reg rfl ?_
 refine rm 5 rfl rfl rfl ?_
 refine rp 6 rfl (op_geq rfl (oT rfl) oC) ?_
 refine rm 7 rfl rfl rfl ?_
 refine gm 8 rfl rfl tG rfl rfl ?_
 refine rg 9 rfl rfl tG (op_fld_ptr (by decide) rfl (oT rfl)) ?_
 refine rk 10 rfl rfl tG (op_load1_flat rfl (oO rfl tO) tH rfl) ?_
 refine rg 11 rfl rfl tG (op_lss rfl (oO rfl tO) (oO rfl tO)) ?_
 refine rg 12 rfl rfl tG (op_move rfl (oO rfl tO)) ?_
 refine gm 13 rfl rfl tG rfl rfl ?_
 refine rg 14 rfl rfl tG (op_fld_ptr (by decide) rfl (oT rfl)) ?_
 refine rk 15 rfl rfl tG (op_load1_flat rfl (oO rfl tO) tH rfl) ?_
 refine rg 16 rfl rfl tG (op_sub rfl (oO rfl tO) (oO rfl tO) tI) ?_
 refine rg 17 rfl rfl tG (op_fld_ptr (by decide) rfl (oT rfl)) ?_
 refine rk 18 rfl rfl tG (op_load1_flat rfl (oO rfl tO) tH rfl) ?_
 refine rg 19 rfl rfl tG (op_lss rfl (oO rfl tO) (oO rfl tO)) ?_
 refine rg 20 rfl rfl tG (op_pick_or rfl (oO rfl tO) (oO rfl tO)) ?_
 refine rp 21 rfl (op_pick_and rfl (oT rfl) (oO rfl tO)) ?_
 refine ra 4 rfl rfl rfl ?_
 refine rn ?_
 refine nK ?_
 (first | exact s_o1 hC rfl tV | exact s_o2 hC rfl tV tV | exact s_o3 hC rfl tV tV tV | exact s_out0 hC rfl | exact s_outO hC rfl rfl rfl)
theorem allowed_c (g : Gr) (e : Edg) (hs : szOk g) : Pure Try.prog 50 [.agg (encG g), .agg (encE e)] (If .i64 (alwI g e)) := by
 unfold alwI
 refine Meets.intro Try.func50 rfl (Nat.le_of_ble_eq_true rfl) fun C hC => ?_
 simp only [List.map, argEnv, Nat.reduceAdd]
 refine nK ?_
 refine s_reg rfl ?_
 refine Run.eff (dd := some 2) rfl rfl (op_box_flat rfl (oT rfl) tC rfl) ?_
 refine Run.eff (dd := some 3) rfl rfl (op_box_flat rfl (oT rfl) tC rfl) ?_
 refine rp 4 rfl (op_assign rfl oC) ?_
 refine rn ?_
 refine nK ?_
 refine s_reg rfl ?_
 refine rp 5 rfl (op_assign rfl oC) ?_
 refine rp 6 rfl (op_assign rfl oC) ?_
 refine rn ?_
 refine nK ?_
 refine s_reg rfl ?_
 refine rp 7 rfl (op_fld_ptr (by decide) rfl (oT rfl)) ?_
 refine rl 8 rfl (op_load1_flat rfl (oT rfl) tH rfl) ?_
 refine rp 9 rfl (op_fld_ptr (by decide) rfl (oT rfl)) ?_
 refine rl 10 rfl (op_load1_flat rfl (oT rfl) tH rfl) ?_
 refine rp 11 rfl (op_geq rfl (oT rfl) (oT rfl)) ?_
 refine rn ?_
 refine nK ?_
 refine n_cond _ rfl (fun hb => ?_) (fun hb => ?_)
 ·have h0 : g.r ≤ e.f := by simpa using hb
  refine nK ?_
  refine s_reg rfl ?_
  refine rp 5 rfl (op_assign rfl oC) ?_
  refine rp 6 rfl (op_assign rfl oC) ?_
  refine rn ?_
  refine nK ?_
  refine s_reg rfl ?_
  refine rl 13 rfl (op_loadw_flat rfl (oT rfl) tH rfl) ?_
  refine rp 14 rfl (op_fld_ptr (by decide) rfl (oT rfl)) ?_
  refine rl 15 rfl (op_load1_flat rfl (oT rfl) tH rfl) ?_
  refine rp 16 rfl (op_call_pure (fun _ => isnode_c _ _ (by assumption)) rfl (Opd.func _) (oS (oT rfl) (oS (oT rfl) Opds.nil))) ?_
  refine rp 17 rfl (op_not rfl (oT rfl)) ?_
  refine rm 18 rfl rfl rfl ?_
  refine rk 19 rfl rfl tG (op_loadw_flat rfl (oT rfl) tH rfl) ?_
  refine rg 20 rfl rfl tG (op_fld_ptr (by decide) rfl (oT rfl)) ?_
  refine rk 21 rfl rfl tG (op_load1_flat rfl (oO rfl tO) tH rfl) ?_
  refine rg 22 rfl rfl tG (op_call_pure (fun _ => isnode_c _ _ (by assumption)) rfl (Opd.func _) (oS (oO rfl tO) (oS (oO rfl tO) Opds.nil))) ?_
  refine rg 23 rfl rfl tG (op_not rfl (oO rfl tO)) ?_
  refine rp 24 rfl (op_pick_or rfl (oT rfl) (oO rfl tO)) ?_
  refine ra 12 rfl rfl rfl ?_
  refine rn ?_
  refine nK ?_
  refine n_cond _ rfl (fun hb => ?_) (fun hb => ?_)
  ·rw [if_pos (by simpa using hb)]
   refine nK ?_
   refine s_reg rfl ?_
   refine rp 4 rfl (op_assign rfl oC) ?_
   refine rn ?_
   refine nK ?_
   (first | exact s_o1 hC rfl tV | exact s_o2 hC rfl tV tV | exact s_o3 hC rfl tV tV tV | exact s_out0 hC rfl | exact s_outO hC rfl rfl rfl)
  ·rw [if_neg (by simpa using hb)]
   refine nK ?_
   refine s_reg rfl ?_
   refine rp 26 rfl (op_fld_ptr (by decide) rfl (oT rfl)) ?_
   refine rl 27 rfl (op_load1_flat rfl (oT rfl) tH rfl) ?_
   refine rp 28 rfl (op_fld_ptr (by decide) rfl (oT rfl)) ?_
   refine rl 29 rfl (op_load1_flat rfl (oT rfl) tH rfl) ?_
   refine rp 30 rfl (op_eql rfl (oT rfl) (oT rfl)) ?_
   refine rm 31 rfl rfl rfl ?_
   refine rg 32 rfl rfl tG (op_fld_ptr (by decide) rfl (oT rfl)) ?_
   refine rk 33 rfl rfl tG (op_load1_flat rfl (oO rfl tO) tH rfl) ?_
   refine rg 34 rfl rfl tG (op_fld_ptr (by decide) rfl (oT rfl)) ?_
   refine rk 35 rfl rfl tG (op_load1_flat rfl (oO rfl tO) tH rfl) ?_
   refine rg 36 rfl rfl tG (op_geq rfl (oO rfl tO) (oO rfl tO)) ?_
   refine rg 37 rfl rfl tG (op_move rfl (oO rfl tO)) ?_
   refine rg 38 rfl rfl tG (op_fld_ptr (by decide) rfl (oT rfl)) ?_
   refine rk 39 rfl rfl tG (op_load1_flat rfl (oO rfl tO) tH rfl) ?_
   refine rg 40 rfl rfl tG (op_fld_ptr (by decide) rfl (oT rfl)) ?_
   refine rk 41 rfl rfl tG (op_load1_flat rfl (oO rfl tO) tH rfl) ?_
   refine rg 42 rfl rfl tG (op_geq rfl (oO rfl tO) (oO rfl tO)) ?_
   refine rg 43 rfl rfl tG (op_pick_and rfl (oO rfl tO) (oO rfl tO)) ?_
   refine rp 44 rfl (op_pick_or rfl (oT rfl) (oO rfl tO)) ?_
   refine rm 45 rfl rfl rfl ?_
   refine rg 46 rfl rfl tG (op_fld_ptr (by decide) rfl (oT rfl)) ?_
   refine rk 47 rfl rfl tG (op_load1_flat rfl (oO rfl tO) tH rfl) ?_
   refine gm 48 rfl rfl tG rfl rfl ?_
   refine rg 49 rfl rfl tG (op_lss rfl (oO rfl tO) (oO rfl tO)) ?_
   refine rp 50 rfl (op_pick_or rfl (oT rfl) (oO rfl tO)) ?_
   refine rm 51 rfl rfl rfl ?_
   refine rg 52 rfl rfl tG (op_fld_ptr (by decide) rfl (oT rfl)) ?_
   refine rk 53 rfl rfl tG (op_load1_flat rfl (oO rfl tO) tH rfl) ?_
   refine gm 54 rfl rfl tG rfl rfl ?_
   refine rg 55 rfl rfl tG (op_gtr rfl (oO rfl tO) (oO rfl tO)) ?_
   refine rp 56 rfl (op_pick_or rfl (oT rfl) (oO rfl tO)) ?_
   refine ra 25 rfl rfl rfl ?_
   refine rn ?_
   refine nK ?_
   refine n_cond _ rfl (fun hb => ?_) (fun hb => ?_)
   ·rw [if_pos (by simp at hb; omega)]
    refine nK ?_
    refine s_reg rfl ?_
    refine rp 4 rfl (op_assign rfl oC) ?_
    refine rn ?_
    refine nK ?_
    (first | exact s_o1 hC rfl tV | exact s_o2 hC rfl tV tV | exact s_o3 hC rfl tV tV tV | exact s_out0 hC rfl | exact s_outO hC rfl rfl rfl)
   ·rw [if_neg (by simp at hb; omega)]
    refine nK ?_
    refine s_reg rfl ?_
    refine rp 4 rfl (op_assign rfl oC) ?_
    refine rn ?_
    refine nK ?_
    (first | exact s_o1 hC rfl tV | exact s_o2 hC rfl tV tV | exact s_o3 hC rfl tV tV tV | exact s_out0 hC rfl | exact s_outO hC rfl rfl rfl)
 ·have h0 : ¬ g.r ≤ e.f := by simpa using hb
  refine nK ?_
  refine s_reg rfl ?_
  refine rl 13 rfl (op_loadw_flat rfl (oT rfl) tH rfl) ?_
  refine rp 14 rfl (op_fld_ptr (by decide) rfl (oT rfl)) ?_
  refine rl 15 rfl (op_load1_flat rfl (oT rfl) tH rfl) ?_
  refine rp 16 rfl (op_call_pure (fun _ => isnode_c _ _ (by assumption)) rfl (Opd.func _) (oS (oT rfl) (oS (oT rfl) Opds.nil))) ?_
  refine rp 17 rfl (op_not rfl (oT rfl)) ?_
  refine rm 18 rfl rfl rfl ?_
  refine rk 19 rfl rfl tG (op_loadw_flat rfl (oT rfl) tH rfl) ?_
  refine rg 20 rfl rfl tG (op_fld_ptr (by decide) rfl (oT rfl)) ?_
  refine rk 21 rfl rfl tG (op_load1_flat rfl (oO rfl tO) tH rfl) ?_
  refine rg 22 rfl rfl tG (op_call_pure (fun _ => isnode_c _ _ (by assumption)) rfl (Opd.func _) (oS (oO rfl tO) (oS (oO rfl tO) Opds.nil))) ?_
  refine rg 23 rfl rfl tG (op_not rfl (oO rfl tO)) ?_
  refine rp 24 rfl (op_pick_or rfl (oT rfl) (oO rfl tO)) ?_
  refine ra 12 rfl rfl rfl ?_
  refine rn ?_
  refine nK ?_
  refine n_cond _ rfl (fun hb => ?_) (fun hb => ?_)
  ·rw [if_pos (by simpa using hb)]
   refine nK ?_
   refine s_reg rfl ?_
   refine rp 4 rfl (op_assign rfl oC) ?_
   refine rn ?_
   refine nK ?_
   (first | exact s_o1 hC rfl tV | exact s_o2 hC rfl tV tV | exact s_o3 hC rfl tV tV tV | exact s_out0 hC rfl | exact s_outO hC rfl rfl rfl)
  ·rw [if_neg (by simpa using hb)]
   refine nK ?_
   refine s_reg rfl ?_
   refine rp 26 rfl (op_fld_ptr (by decide) rfl (oT rfl)) ?_
   refine rl 27 rfl (op_load1_flat rfl (oT rfl) tH rfl) ?_
   refine rp 28 rfl (op_fld_ptr (by decide) rfl (oT rfl)) ?_
   refine rl 29 rfl (op_load1_flat rfl (oT rfl) tH rfl) ?_
   refine rp 30 rfl (op_eql rfl (oT rfl) (oT rfl)) ?_
   refine rm 31 rfl rfl rfl ?_
   refine rg 32 rfl rfl tG (op_fld_ptr (by decide) rfl (oT rfl)) ?_
   refine rk 33 rfl rfl tG (op_load1_flat rfl (oO rfl tO) tH rfl) ?_
   refine rg 34 rfl rfl tG (op_fld_ptr (by decide) rfl (oT rfl)) ?_
   refine rk 35 rfl rfl tG (op_load1_flat rfl (oO rfl tO) tH rfl) ?_
   refine rg 36 rfl rfl tG (op_geq rfl (oO rfl tO) (oO rfl tO)) ?_
   refine rg 37 rfl rfl tG (op_move rfl (oO rfl tO)) ?_
   refine rg 38 rfl rfl tG (op_fld_ptr (by decide) rfl (oT rfl)) ?_
   refine rk 39 rfl rfl tG (op_load1_flat rfl (oO rfl tO) tH rfl) ?_
   refine rg 40 rfl rfl tG (op_fld_ptr (by decide) rfl (oT rfl)) ?_
   refine rk 41 rfl rfl tG (op_load1_flat rfl (oO rfl tO) tH rfl) ?_
   refine rg 42 rfl rfl tG (op_geq rfl (oO rfl tO) (oO rfl tO)) ?_
   refine rg 43 rfl rfl tG (op_pick_and rfl (oO rfl tO) (oO rfl tO)) ?_
   refine rp 44 rfl (op_pick_or rfl (oT rfl) (oO rfl tO)) ?_
   refine rm 45 rfl rfl rfl ?_
   refine rg 46 rfl rfl tG (op_fld_ptr (by decide) rfl (oT rfl)) ?_
   refine rk 47 rfl rfl tG (op_load1_flat rfl (oO rfl tO) tH rfl) ?_
   refine gm 48 rfl rfl tG rfl rfl ?_
   refine rg 49 rfl rfl tG (op_lss rfl (oO rfl tO) (oO rfl tO)) ?_
   refine rp 50 rfl (op_pick_or rfl (oT rfl) (oO rfl tO)) ?_
   refine rm 51 rfl rfl rfl ?_
   refine rg 52 rfl rfl tG (op_fld_ptr (by decide) rfl (oT rfl)) ?_
   refine rk 53 rfl rfl tG (op_load1_flat rfl (oO rfl tO) tH rfl) ?_
   refine gm 54 rfl rfl tG rfl rfl ?_
   refine rg 55 rfl rfl tG (op_gtr rfl (oO rfl tO) (oO rfl tO)) ?_
   refine rp 56 rfl (op_pick_or rfl (oT rfl) (oO rfl tO)) ?_
   refine ra 25 rfl rfl rfl ?_
   refine rn ?_
   refine nK ?_
   refine n_cond _ rfl (fun hb => ?_) (fun hb => ?_)
   ·rw [if_pos (by simp at hb; omega)]
    refine nK ?_
    refine s_reg rfl ?_
    refine rp 4 rfl (op_assign rfl oC) ?_
    refine rn ?_
    refine nK ?_
    (first | exact s_o1 hC rfl tV | exact s_o2 hC rfl tV tV | exact s_o3 hC rfl tV tV tV | exact s_out0 hC rfl | exact s_outO hC rfl rfl rfl)
   ·rw [if_neg (by simp at hb; omega)]
    refine nK ?_
    refine s_reg rfl ?_
    refine rp 4 rfl (op_assign rfl oC) ?_
    refine rn ?_
    refine nK ?_
    (first | exact s_o1 hC rfl tV | exact s_o2 hC rfl tV tV | exact s_o3 hC rfl tV tV tV | exact s_out0 hC rfl | exact s_outO hC rfl rfl rfl)
theorem rallowed_c (g : Gr) (e : Edg) (hs : szOk g) (he : okE e) : Pure Try.prog 31 [.agg (encG g), .agg (encE e)] (If .i64 (alwI g e)) := by
 obtain ⟨h1, h2, h3⟩ := he
 unfold alwI
 refine Meets.intro Try.func31 rfl (Nat.le_of_ble_eq_true rfl) fun C hC => ?_
 simp only [List.map, argEnv, Nat.reduceAdd]
 refine nK ?_
 refine s_reg rfl ?_
 refine Run.eff (dd := some 2) rfl rfl (op_box_flat rfl (oT rfl) tC rfl) ?_
 refine Run.eff (dd := some 3) rfl rfl (op_box_flat rfl (oT rfl) tC rfl) ?_
 refine rp 4 rfl (op_assign rfl oC) ?_
 refine rn ?_
 refine nK ?_
 refine s_reg rfl ?_
 refine rl 5 rfl (op_loadw_flat rfl (oT rfl) tH rfl) ?_
 refine rp 6 rfl (op_fld_ptr (by decide) rfl (oT rfl)) ?_
 refine rl 7 rfl (op_load1_flat rfl (oT rfl) tH rfl) ?_
 refine rp 8 rfl (op_call_pure (fun _ => rnode_c _ _ (by assumption) (by assumption)) rfl (Opd.func _) (oS (oT rfl) (oS (oT rfl) Opds.nil))) ?_
 refine rp 9 rfl (op_not rfl (oT rfl)) ?_
 refine rm 10 rfl rfl rfl ?_
 refine rk 11 rfl rfl tG (op_loadw_flat rfl (oT rfl) tH rfl) ?_
 refine rg 12 rfl rfl tG (op_fld_ptr (by decide) rfl (oT rfl)) ?_
 refine rk 13 rfl rfl tG (op_load1_flat rfl (oO rfl tO) tH rfl) ?_
 refine rg 14 rfl rfl tG (op_call_pure (fun _ => rnode_c _ _ (by assumption) (by assumption)) rfl (Opd.func _) (oS (oO rfl tO) (oS (oO rfl tO) Opds.nil))) ?_
 refine rg 15 rfl rfl tG (op_not rfl (oO rfl tO)) ?_
 refine rp 16 rfl (op_pick_or rfl (oT rfl) (oO rfl tO)) ?_
 refine rn ?_
 refine nK ?_
 refine n_cond _ rfl (fun hb => ?_) (fun hb => ?_)
 ·rw [if_pos (by simpa using hb)]
  refine nK ?_
  refine s_reg rfl ?_
  refine rp 4 rfl (op_assign rfl oC) ?_
  refine rn ?_
  refine nK ?_
  (first | exact s_o1 hC rfl tV | exact s_o2 hC rfl tV tV | exact s_o3 hC rfl tV tV tV | exact s_out0 hC rfl | exact s_outO hC rfl rfl rfl)
 ·rw [if_neg (by simpa using hb)]
  refine nK ?_
  refine s_reg rfl ?_
  refine rp 17 rfl (op_fld_ptr (by decide) rfl (oT rfl)) ?_
  refine rl 18 rfl (op_load1_flat rfl (oT rfl) tH rfl) ?_
  refine rp 19 rfl (op_fld_ptr (by decide) rfl (oT rfl)) ?_
  refine rl 20 rfl (op_load1_flat rfl (oT rfl) tH rfl) ?_
  refine rp 21 rfl (op_eql rfl (oT rfl) (oT rfl)) ?_
  refine rm 22 rfl rfl rfl ?_
  refine rg 23 rfl rfl tG (op_fld_ptr (by decide) rfl (oT rfl)) ?_
  refine rk 24 rfl rfl tG (op_load1_flat rfl (oO rfl tO) tH rfl) ?_
  refine rg 25 rfl rfl tG (op_fld_ptr (by decide) rfl (oT rfl)) ?_
  refine rk 26 rfl rfl tG (op_load1_flat rfl (oO rfl tO) tH rfl) ?_
  refine rg 27 rfl rfl tG (op_geq rfl (oO rfl tO) (oO rfl tO)) ?_
  refine rg 28 rfl rfl tG (op_move rfl (oO rfl tO)) ?_
  refine rg 29 rfl rfl tG (op_fld_ptr (by decide) rfl (oT rfl)) ?_
  refine rk 30 rfl rfl tG (op_load1_flat rfl (oO rfl tO) tH rfl) ?_
  refine rg 31 rfl rfl tG (op_fld_ptr (by decide) rfl (oT rfl)) ?_
  refine rk 32 rfl rfl tG (op_load1_flat rfl (oO rfl tO) tH rfl) ?_
  refine rg 33 rfl rfl tG (op_geq rfl (oO rfl tO) (oO rfl tO)) ?_
  refine rg 34 rfl rfl tG (op_pick_and rfl (oO rfl tO) (oO rfl tO)) ?_
  refine rp 35 rfl (op_pick_or rfl (oT rfl) (oO rfl tO)) ?_
  refine rn ?_
  refine nK ?_
  refine n_cond _ rfl (fun hb => ?_) (fun hb => ?_)
  ·rw [if_pos (by simp at hb; omega)]
   refine nK ?_
   refine s_reg rfl ?_
   refine rp 4 rfl (op_assign rfl oC) ?_
   refine rn ?_
   refine nK ?_
   (first | exact s_o1 hC rfl tV | exact s_o2 hC rfl tV tV | exact s_o3 hC rfl tV tV tV | exact s_out0 hC rfl | exact s_outO hC rfl rfl rfl)
  ·have h4 := hb
   refine nK ?_
   refine s_reg rfl ?_
   refine rp 36 rfl (op_fld_ptr (by decide) rfl (oT rfl)) ?_
   refine rl 37 rfl (op_load1_flat rfl (oT rfl) tH rfl) ?_
   refine rp 38 rfl (op_fld_ptr (by decide) rfl (oT rfl)) ?_
   refine rl 39 rfl (op_load1_flat rfl (oT rfl) tH rfl) ?_
   refine rp 40 rfl (op_geq rfl (oT rfl) (oT rfl)) ?_
   refine rm 41 rfl rfl rfl ?_
   refine rg 42 rfl rfl tG (op_fld_ptr (by decide) rfl (oT rfl)) ?_
   refine rk 43 rfl rfl tG (op_load1_flat rfl (oO rfl tO) tH rfl) ?_
   refine rg 44 rfl rfl tG (op_neq rfl (oO rfl tO) oC) ?_
   refine rp 45 rfl (op_pick_and rfl (oT rfl) (oO rfl tO)) ?_
   refine rm 46 rfl rfl rfl ?_
   refine rg 47 rfl rfl tG (op_fld_ptr (by decide) rfl (oT rfl)) ?_
   refine rk 48 rfl rfl tG (op_load1_flat rfl (oO rfl tO) tH rfl) ?_
   refine rg 49 rfl rfl tG (op_fld_ptr (by decide) rfl (oT rfl)) ?_
   refine rk 50 rfl rfl tG (op_load1_flat rfl (oO rfl tO) tH rfl) ?_
   refine rg 51 rfl rfl tG (op_lss rfl (oO rfl tO) (oO rfl tO)) ?_
   refine rg 52 rfl rfl tG (op_move rfl (oO rfl tO)) ?_
   refine rg 53 rfl rfl tG (op_fld_ptr (by decide) rfl (oT rfl)) ?_
   refine rk 54 rfl rfl tG (op_load1_flat rfl (oO rfl tO) tH rfl) ?_
   refine rg 55 rfl rfl tG (op_lss rfl (oO rfl tO) oC) ?_
   refine rg 56 rfl rfl tG (op_move rfl (oO rfl tO)) ?_
   refine rg 57 rfl rfl tG (op_fld_ptr (by decide) rfl (oT rfl)) ?_
   refine rk 58 rfl rfl tG (op_load1_flat rfl (oO rfl tO) tH rfl) ?_
   refine rg 59 rfl rfl tG (op_gtr rfl (oO rfl tO) oC) ?_
   refine rg 60 rfl rfl tG (op_pick_or rfl (oO rfl tO) (oO rfl tO)) ?_
   refine rg 61 rfl rfl tG (op_pick_and rfl (oO rfl tO) (oO rfl tO)) ?_
   refine rp 62 rfl (op_pick_or rfl (oT rfl) (oO rfl tO)) ?_
   refine rn ?_
   refine nK ?_
   refine n_cond _ rfl (fun hb => ?_) (fun hb => ?_)
   ·rw [if_pos (by simp at hb h4; omega)]
    refine nK ?_
    refine s_reg rfl ?_
    refine rp 4 rfl (op_assign rfl oC) ?_
    refine rn ?_
    refine nK ?_
    (first | exact s_o1 hC rfl tV | exact s_o2 hC rfl tV tV | exact s_o3 hC rfl tV tV tV | exact s_out0 hC rfl | exact s_outO hC rfl rfl rfl)
   ·rw [if_neg (by simp at hb h4; omega)]
    refine nK ?_
    refine s_reg rfl ?_
    refine rp 4 rfl (op_assign rfl oC) ?_
    refine rn ?_
    refine nK ?_
    (first | exact s_o1 hC rfl tV | exact s_o2 hC rfl tV tV | exact s_o3 hC rfl tV tV tV | exact s_out0 hC rfl | exact s_outO hC rfl rfl rfl)
end Go.Proofs.Ytnkhlbljnmodbaa
/- Lists of edges and numbers: what the reference's loops compute. -/
namespace Go.Pl
open Go.RT
set_option linter.all false
def isB (f t : Int) (e : Edg) : Bool := decide (e.f = f) && decide (e.t = t)
def costL (f t : Int) : List Edg → Int × Bool
  | [] => (0, false)
  | e :: l => if isB f t e = true then (e.c, true) else costL f t l
end Go.Pl
namespace Go.Proofs.Ytnkhlbljnmodbaa
open Go Go.RT Go.Proofs Go.Pl
set_option linter.all false
set_option maxRecDepth 20000
abbrev OG (g : Gr) : Option Ob := some (.flat 3 [encG g])
theorem prev_row {l : List Edg} {i : Nat} (h0 : 0 < i) (h : i ≤ l.length) : ∃ q, prevO l i = some q ∧ (l.map encE)[i - 1]? = some (encE q) := by
 have h1 : i - 1 < l.length := by omega
 exact ⟨l[i - 1], by simp [prevO, h1]; omega, row_at' encE l (i - 1) h1⟩
theorem check_c (g : Gr) (hg : okG g) : Pure Try.prog 42 [.agg (encG g)] (If .i64 (checkI g)) := by
 unfold checkI
 refine Meets.intro Try.func42 rfl (Nat.le_of_ble_eq_true rfl) fun C hC => ?_
 simp only [List.map, argEnv, Nat.reduceAdd]
 refine nK ?_
 refine s_reg rfl ?_
 refine Run.eff (dd := some 1) rfl rfl (op_box_flat rfl (oT rfl) tC rfl) ?_
 refine rp 2 rfl (op_assign rfl oC) ?_
 refine rn ?_
 refine nK ?_
 refine s_reg rfl ?_
 refine rl 7 rfl (op_loadw_flat rfl (oT rfl) tH rfl) ?_
 refine rp 8 rfl (op_call_pure (fun _ => size_c _ (by assumption)) rfl (Opd.func _) (oS (oT rfl) Opds.nil)) ?_
 refine ra 3 rfl rfl rfl ?_
 refine rn ?_
 refine nK ?_
 refine s_reg rfl ?_
 refine rm 9 rfl rfl rfl ?_
 refine rp 10 rfl (op_neq rfl (oT rfl) oC) ?_
 refine rn ?_
 refine nK ?_
 refine n_cond _ rfl (fun hb => ?_) (fun hb => ?_)
 ·rw [if_pos (by simpa using hb)]
  refine nK ?_
  refine s_reg rfl ?_
  refine rm 11 rfl rfl rfl ?_
  refine ra 2 rfl rfl rfl ?_
  refine rn ?_
  refine nK ?_
  (first | exact s_o1 hC rfl tV | exact s_o2 hC rfl tV tV | exact s_o3 hC rfl tV tV tV | exact s_out0 hC rfl | exact s_outO hC rfl rfl rfl)
 ·have hz : sizeI g = 0 := by simpa using hb
  rw [if_neg (by simp [hz])]
  obtain ⟨hs, hlen⟩ := sizeI_ok hz
  refine nK ?_
  refine s_reg rfl ?_
  refine rp 12 rfl (op_fld_ptr (by decide) rfl (oT rfl)) ?_
  refine rl 13 rfl (op_load1_flat rfl (oT rfl) tH rfl) ?_
  refine rp 14 rfl (op_len_fz rfl (by first | exact Opd.tmp _ _ rfl | exact Opd.nil _ _ (oT rfl)) (by first | exact List.length_map _ | rfl)) ?_
  refine rp 15 rfl (op_move rfl oC) ?_
  refine rn ?_
  refine nK ?_
  refine n_loop (ι := Nat) (fun i => ([(1, .ptr 0 3 0 0), (13, .fz (VE g.es)), (14, IV .i64 g.es.length), (15, IV .i64 i)], [(0, OG g)], 1)) (fun i => i ≤ g.es.length ∧ chkL g (prevO g.es i) (g.es.drop i) = chkL g none g.es) (fun i => g.es.length - i) 0 ⟨Nat.zero_le _, rfl⟩ ?_ ?_
  ·refine Next.weakS [1] [] (by rfl) (by first | exact keeps0 hC _ | exact keepsN hC _ rfl) (by repeat (first | exact trivial | refine ⟨⟨_, rfl, .inl ⟨rfl, rfl⟩⟩, ?_⟩ | refine ⟨⟨_, rfl, .inl ⟨slEq rfl tN, rfl⟩⟩, ?_⟩ | refine ⟨⟨_, rfl, .inl ⟨ivEq tX, rfl⟩⟩, ?_⟩)) (by repeat (first | exact trivial | refine ⟨ent_same rfl rfl rfl tL, ?_⟩ | refine ⟨ent_same rfl rfl (rfEq rfl tU) tL, ?_⟩ | refine ⟨ent_same rfl rfl (flEq rfl (by first | (simp; done) | (simp; omega) | (simp [encE]; done) | simp [maxC, minC])) trivial, ?_⟩)) rfl (rel_intro)
  ·intro i ⟨hi, ho⟩ K hK
   refine nK ?_
   refine s_reg rfl ?_
   refine rp 16 rfl (op_lss rfl (oT rfl) (oT rfl)) ?_
   refine rn ?_
   refine nK ?_
   refine n_cond _ rfl (fun hb => ?_) (fun hb => ?_)
   ·have hlt : i < g.es.length := by simp at hb; omega
    have hr1 := row_at' encE g.es i hlt
    rw [chk_step hlt] at ho
    have hK1 := fun h => hK (i + 1) ⟨by omega, h⟩ (by omega)
    refine nK ?_
    refine s_reg rfl ?_
    refine rm 17 rfl rfl rfl ?_
    refine rp 18 rfl (op_idx_fz _ rfl (oT rfl) (oT rfl) tF) ?_
    refine rp 19 rfl (op_loadw_fz rfl (oT rfl) rfl) ?_
    refine Run.eff (dd := some 5) rfl rfl (op_alloc rfl rfl rfl rfl) ?_
    refine ra 4 rfl rfl rfl ?_
    refine Run.eff (dd := none) rfl rfl (op_store_flat rfl (oT rfl) (oT rfl) tC rfl rfl (by first | rfl | assumption) tS) ?_
    refine rn ?_
    refine nK ?_
    refine s_reg rfl ?_
    refine rl 20 rfl (op_loadw_flat rfl (oT rfl) tH rfl) ?_
    refine rl 21 rfl (op_loadw_flat rfl (oT rfl) tH rfl) ?_
    refine rp 22 rfl (op_call_pure (fun _ => allowed_c _ _ (by assumption)) rfl (Opd.func _) (oS (oT rfl) (oS (oT rfl) Opds.nil))) ?_
    refine ra 6 rfl rfl rfl ?_
    refine rn ?_
    refine nK ?_
    refine s_reg rfl ?_
    refine rm 23 rfl rfl rfl ?_
    refine rp 24 rfl (op_neq rfl (oT rfl) oC) ?_
    refine rn ?_
    refine nK ?_
    refine n_cond _ rfl (fun hb => ?_) (fun hb => ?_)
    ·have ha : alwI g g.es[i] ≠ 0 := by simpa using hb
     rw [if_pos ha] at ho
     rw [← ho]
     refine nK ?_
     refine s_reg rfl ?_
     refine rm 25 rfl rfl rfl ?_
     refine ra 2 rfl rfl rfl ?_
     refine rn ?_
     refine nK ?_
     (first | exact s_o1 hC rfl tV | exact s_o2 hC rfl tV tV | exact s_o3 hC rfl tV tV tV | exact s_out0 hC rfl | exact s_outO hC rfl rfl rfl)
    ·have ha : ¬ alwI g g.es[i] ≠ 0 := by simpa using hb
     rw [if_neg ha] at ho
     have hp : ∃ q, (0 < i → prevO g.es i = some q ∧ (g.es.map encE)[i - 1]? = some (encE q)) := by
      by_cases h0 : 0 < i
      ·obtain ⟨q, h1, h2⟩ := prev_row h0 hi
       exact ⟨q, fun _ => ⟨h1, h2⟩⟩
      ·exact ⟨⟨0, 0, 0⟩, fun h => absurd h h0⟩
     obtain ⟨q, hq⟩ := hp
     refine nK ?_
     refine s_draw mixed ?_
     refine rm 26 rfl rfl rfl ?_
     refine rp 27 rfl (op_gtr rfl (oT rfl) oC) ?_
     refine rm 28 rfl rfl rfl ?_
     refine rg 29 rfl rfl tG (op_fld_ptr (by decide) rfl (oT rfl)) ?_
     refine rk 30 rfl rfl tG (op_load1_flat rfl (oO rfl tO) tH rfl) ?_
     refine gm 31 rfl rfl tG rfl rfl ?_
     refine rg 32 rfl rfl tG (op_sub rfl (oO rfl tO) oC tI) ?_
     refine rg 33 rfl rfl tG (op_idx_fz (i - 1) rfl (oO rfl tO) (oO rfl tO) (by intro hg; have h0 : 0 < i := (by simp at hg; omega); exact ⟨by omega, (hq h0).2⟩)) ?_
     refine rg 34 rfl rfl tG (op_loadw_fz rfl (oO rfl tO) rfl) ?_
     refine rk 35 rfl rfl tG (op_loadw_flat rfl (oT rfl) tH rfl) ?_
     refine rg 36 rfl rfl tG (op_call_pure (fun _ => order_c _ _) rfl (Opd.func _) (oS (oO rfl tO) (oS (oO rfl tO) Opds.nil))) ?_
     refine rg 37 rfl rfl tG (op_geq rfl (oO rfl tO) oC) ?_
     refine rp 38 rfl (op_pick_and rfl (oT rfl) (oO rfl tO)) ?_
     refine Run.nil (FinD.mk (by kernel_rfl) ?_)
     refine nK ?_
     refine n_cond _ rfl (fun hb => ?_) (fun hb => ?_)
     ·have h0 : 0 < i := by simp at hb; omega
      rw [(hq h0).1, if_pos (by rw [ordE_ge] at hb; simp at hb; simpa [badP] using hb.2)] at ho
      rw [← ho]
      refine nK ?_
      refine s_reg rfl ?_
      refine rp 2 rfl (op_assign rfl oC) ?_
      refine rn ?_
      refine nK ?_
      (first | exact s_o1 hC rfl tV | exact s_o2 hC rfl tV tV | exact s_o3 hC rfl tV tV tV | exact s_out0 hC rfl | exact s_outO hC rfl rfl rfl)
     ·have hc : ¬ badP (prevO g.es i) g.es[i] = true := by
       by_cases h0 : 0 < i
       ·rw [(hq h0).1]; rw [ordE_ge] at hb; simp [h0, badP] at hb ⊢; exact hb
       ·have : i = 0 := by omega
        subst this; simp [prevO, badP]
      rw [if_neg hc] at ho
      refine nK ?_
      refine s_reg rfl ?_
      refine rp 39 rfl (op_add rfl (oT rfl) oC tI) ?_
      refine rm 15 rfl rfl rfl ?_
      refine rn ?_
      refine nK ?_
      refine Next.weakS [1] [] (by rfl) (by first | exact keeps0 hC _ | exact keepsN hC _ rfl) (by repeat (first | exact trivial | refine ⟨⟨_, rfl, .inl ⟨rfl, rfl⟩⟩, ?_⟩ | refine ⟨⟨_, rfl, .inl ⟨slEq rfl tN, rfl⟩⟩, ?_⟩ | refine ⟨⟨_, rfl, .inl ⟨ivEq tX, rfl⟩⟩, ?_⟩)) (by repeat (first | exact trivial | refine ⟨ent_same rfl rfl rfl tL, ?_⟩ | refine ⟨ent_same rfl rfl (rfEq rfl tU) tL, ?_⟩ | refine ⟨ent_same rfl rfl (flEq rfl (by first | (simp; done) | (simp; omega) | (simp [encE]; done) | simp [maxC, minC])) trivial, ?_⟩)) rfl ((hK1 ho))
   ·have hie : i = g.es.length := by simp at hb; omega
    rw [hie, List.drop_length] at ho
    rw [← ho]
    simp only [chkL]
    refine nK ?_
    refine s_reg rfl ?_
    refine rp 2 rfl (op_assign rfl oC) ?_
    refine rn ?_
    refine nK ?_
    (first | exact s_o1 hC rfl tV | exact s_o2 hC rfl tV tV | exact s_o3 hC rfl tV tV tV | exact s_out0 hC rfl | exact s_outO hC rfl rfl rfl)
theorem rsize_c (g : Gr) (hg : okG g) : Pure Try.prog 30 [.agg (encG g)] (If .i64 (if g.r < 0 ∨ g.n < 0 then 5 else if g.r > 128 ∨ g.n > 128 - g.r then 4 else 0)) := by
 obtain ⟨g1, g2, g3⟩ := hg
 simp only [inr] at g1 g2
 refine Meets.intro Try.func30 rfl (Nat.le_of_ble_eq_true rfl) fun C hC => ?_
 simp only [List.map, argEnv, Nat.reduceAdd]
 refine nK ?_
 refine s_reg rfl ?_
 refine Run.eff (dd := some 1) rfl rfl (op_box_flat rfl (oT rfl) tC rfl) ?_
 refine rp 2 rfl (op_assign rfl oC) ?_
 refine rn ?_
 refine nK ?_
 refine s_reg rfl ?_
 refine rp 3 rfl (op_fld_ptr (by decide) rfl (oT rfl)) ?_
 refine rl 4 rfl (op_load1_flat rfl (oT rfl) tH rfl) ?_
 refine rp 5 rfl (op_lss rfl (oT rfl) oC) ?_
 refine rm 6 rfl rfl rfl ?_
 refine rg 7 rfl rfl tG (op_fld_ptr (by decide) rfl (oT rfl)) ?_
 refine rk 8 rfl rfl tG (op_load1_flat rfl (oO rfl tO) tH rfl) ?_
 refine rg 9 rfl rfl tG (op_lss rfl (oO rfl tO) oC) ?_
 refine rp 10 rfl (op_pick_or rfl (oT rfl) (oO rfl tO)) ?_
 refine rn ?_
 refine nK ?_
 refine n_cond _ rfl (fun hb => ?_) (fun hb => ?_)
 ·rw [if_pos (by simpa using hb)]
  refine nK ?_
  refine s_reg rfl ?_
  refine rp 2 rfl (op_assign rfl oC) ?_
  refine rn ?_
  refine nK ?_
  (first | exact s_o1 hC rfl tV | exact s_o2 hC rfl tV tV | exact s_o3 hC rfl tV tV tV | exact s_out0 hC rfl | exact s_outO hC rfl rfl rfl)
 ·rw [if_neg (by simp at hb; omega)]
  have h0 : 0 ≤ g.r ∧ 0 ≤ g.n := by simp at hb; omega
  refine nK ?_
  refine s_reg rfl ?_
  refine rp 11 rfl (op_fld_ptr (by decide) rfl (oT rfl)) ?_
  refine rl 12 rfl (op_load1_flat rfl (oT rfl) tH rfl) ?_
  refine rp 13 rfl (op_gtr rfl (oT rfl) oC) ?_
  refine rm 14 rfl rfl rfl ?_
  refine rg 15 rfl rfl tG (op_fld_ptr (by decide) rfl (oT rfl)) ?_
  refine rk 16 rfl rfl tG (op_load1_flat rfl (oO rfl tO) tH rfl) ?_
  refine rg 17 rfl rfl tG (op_fld_ptr (by decide) rfl (oT rfl)) ?_
  refine rk 18 rfl rfl tG (op_load1_flat rfl (oO rfl tO) tH rfl) ?_
  refine rg 19 rfl rfl tG (op_sub rfl oC (oO rfl tO) tI) ?_
  refine rg 20 rfl rfl tG (op_gtr rfl (oO rfl tO) (oO rfl tO)) ?_
  refine rp 21 rfl (op_pick_or rfl (oT rfl) (oO rfl tO)) ?_
  refine rn ?_
  refine nK ?_
  refine n_cond _ rfl (fun hb => ?_) (fun hb => ?_)
  ·rw [if_pos (by simp at hb; omega)]
   refine nK ?_
   refine s_reg rfl ?_
   refine rp 2 rfl (op_assign rfl oC) ?_
   refine rn ?_
   refine nK ?_
   (first | exact s_o1 hC rfl tV | exact s_o2 hC rfl tV tV | exact s_o3 hC rfl tV tV tV | exact s_out0 hC rfl | exact s_outO hC rfl rfl rfl)
  ·rw [if_neg (by simp at hb; omega)]
   refine nK ?_
   refine s_reg rfl ?_
   refine rp 2 rfl (op_assign rfl oC) ?_
   refine rn ?_
   refine nK ?_
   (first | exact s_o1 hC rfl tV | exact s_o2 hC rfl tV tV | exact s_o3 hC rfl tV tV tV | exact s_out0 hC rfl | exact s_outO hC rfl rfl rfl)
theorem rcheck_c (g : Gr) (hg : okG g) : Pure Try.prog 14 [.agg (encG g)] (If .i64 (checkI g)) := by
 obtain ⟨_, _, hes⟩ := id hg
 unfold checkI
 refine Meets.intro Try.func14 rfl (Nat.le_of_ble_eq_true rfl) fun C hC => ?_
 simp only [List.map, argEnv, Nat.reduceAdd]
 refine nK ?_
 refine s_reg rfl ?_
 refine Run.eff (dd := some 1) rfl rfl (op_box_flat rfl (oT rfl) tC rfl) ?_
 refine rp 2 rfl (op_assign rfl oC) ?_
 refine rn ?_
 refine nK ?_
 refine s_reg rfl ?_
 refine rl 6 rfl (op_loadw_flat rfl (oT rfl) tH rfl) ?_
 refine rp 7 rfl (op_call_pure (fun _ => rsize_c _ (by assumption)) rfl (Opd.func _) (oS (oT rfl) Opds.nil)) ?_
 refine ra 3 rfl rfl rfl ?_
 refine rn ?_
 refine nK ?_
 refine s_reg rfl ?_
 refine rm 8 rfl rfl rfl ?_
 refine rp 9 rfl (op_neq rfl (oT rfl) oC) ?_
 refine rn ?_
 refine nK ?_
 refine n_cond _ rfl (fun hb => ?_) (fun hb => ?_)
 ·have : sizeI g = (if g.r < 0 ∨ g.n < 0 then 5 else if g.r > 128 ∨ g.n > 128 - g.r then 4 else 0) := by
   unfold sizeI
   by_cases h1 : g.r < 0 ∨ g.n < 0
   ·rw [if_pos h1, if_pos h1]
   ·rw [if_neg h1, if_neg h1]
    rw [if_neg h1] at hb
    by_cases h2 : g.r > 128 ∨ g.n > 128 - g.r
    ·rw [if_pos h2, if_pos (by omega)]
    ·rw [if_neg h2] at hb; cases hb
  rw [← this] at hb ⊢
  rw [if_pos (by simpa using hb)]
  refine nK ?_
  refine s_reg rfl ?_
  refine rm 10 rfl rfl rfl ?_
  refine ra 2 rfl rfl rfl ?_
  refine rn ?_
  refine nK ?_
  (first | exact s_o1 hC rfl tV | exact s_o2 hC rfl tV tV | exact s_o3 hC rfl tV tV tV | exact s_out0 hC rfl | exact s_outO hC rfl rfl rfl)
 ·have hb0 : (if g.r < 0 ∨ g.n < 0 then (5 : Int) else if g.r > 128 ∨ g.n > 128 - g.r then 4 else 0) = 0 := by simpa using hb
  have h1 : ¬ (g.r < 0 ∨ g.n < 0) := fun h => by rw [if_pos h] at hb0; cases hb0
  rw [if_neg h1] at hb0
  have h2 : ¬ (g.r > 128 ∨ g.n > 128 - g.r) := fun h => by rw [if_pos h] at hb0; cases hb0
  refine nK ?_
  refine s_reg rfl ?_
  refine rp 11 rfl (op_fld_ptr (by decide) rfl (oT rfl)) ?_
  refine rl 12 rfl (op_load1_flat rfl (oT rfl) tH rfl) ?_
  refine rp 13 rfl (op_len_fz rfl (by first | exact Opd.tmp _ _ rfl | exact Opd.nil _ _ (oT rfl)) (by first | exact List.length_map _ | rfl)) ?_
  refine rp 14 rfl (op_gtr rfl (oT rfl) oC) ?_
  refine rn ?_
  refine nK ?_
  refine n_cond _ rfl (fun hb => ?_) (fun hb => ?_)
  ·have hz : sizeI g = 4 := by unfold sizeI; rw [if_neg h1, if_pos (by simp at hb; omega)]
   have hcz : sizeI g ≠ 0 := by rw [hz]; decide
   rw [if_pos hcz, hz]
   refine nK ?_
   refine s_reg rfl ?_
   refine rp 2 rfl (op_assign rfl oC) ?_
   refine rn ?_
   refine nK ?_
   (first | exact s_o1 hC rfl tV | exact s_o2 hC rfl tV tV | exact s_o3 hC rfl tV tV tV | exact s_out0 hC rfl | exact s_outO hC rfl rfl rfl)
  ·have hz : sizeI g = 0 := by unfold sizeI; rw [if_neg h1, if_neg (by simp at hb; omega)]
   have hcz : ¬ sizeI g ≠ 0 := by simp [hz]
   rw [if_neg hcz]
   obtain ⟨hs, hlen⟩ := sizeI_ok hz
   refine nK ?_
   refine s_reg rfl ?_
   refine rp 4 rfl (op_assign rfl oC) ?_
   refine rn ?_
   refine nK ?_
   refine n_loop (ι := Nat) (fun i => ([(1, .ptr 0 3 0 0), (4, IV .i64 i)], [(0, OG g)], 1)) (fun i => i ≤ g.es.length ∧ chkL g (prevO g.es i) (g.es.drop i) = chkL g none g.es) (fun i => g.es.length - i) 0 ⟨Nat.zero_le _, rfl⟩ ?_ ?_
   ·refine Next.weakS [1] [] (by rfl) (by first | exact keeps0 hC _ | exact keepsN hC _ rfl) (by repeat (first | exact trivial | refine ⟨⟨_, rfl, .inl ⟨rfl, rfl⟩⟩, ?_⟩ | refine ⟨⟨_, rfl, .inl ⟨slEq rfl tN, rfl⟩⟩, ?_⟩ | refine ⟨⟨_, rfl, .inl ⟨ivEq tX, rfl⟩⟩, ?_⟩)) (by repeat (first | exact trivial | refine ⟨ent_same rfl rfl rfl tL, ?_⟩ | refine ⟨ent_same rfl rfl (rfEq rfl tU) tL, ?_⟩ | refine ⟨ent_same rfl rfl (flEq rfl (by first | (simp; done) | (simp; omega) | (simp [encE]; done) | simp [maxC, minC])) trivial, ?_⟩)) rfl (rel_intro)
   ·intro i ⟨hi, ho⟩ K hK
    refine nK ?_
    refine s_reg rfl ?_
    refine rm 15 rfl rfl rfl ?_
    refine rp 16 rfl (op_fld_ptr (by decide) rfl (oT rfl)) ?_
    refine rl 17 rfl (op_load1_flat rfl (oT rfl) tH rfl) ?_
    refine rp 18 rfl (op_len_fz rfl (by first | exact Opd.tmp _ _ rfl | exact Opd.nil _ _ (oT rfl)) (by first | exact List.length_map _ | rfl)) ?_
    refine rp 19 rfl (op_lss rfl (oT rfl) (oT rfl)) ?_
    refine rn ?_
    refine nK ?_
    refine n_cond _ rfl (fun hb => ?_) (fun hb => ?_)
    ·have hlt : i < g.es.length := by simp at hb; omega
     have hr1 := row_at' encE g.es i hlt
     have hoe := hes g.es[i] (List.getElem_mem hlt)
     rw [chk_step hlt] at ho
     have hK1 := fun h => hK (i + 1) ⟨by omega, h⟩ (by omega)
     refine nK ?_
     refine s_draw mixed ?_
     refine rl 22 rfl (op_loadw_flat rfl (oT rfl) tH rfl) ?_
     refine rp 23 rfl (op_fld_ptr (by decide) rfl (oT rfl)) ?_
     refine rl 24 rfl (op_load1_flat rfl (oT rfl) tH rfl) ?_
     refine rm 25 rfl rfl rfl ?_
     refine rp 26 rfl (op_idx_fz _ rfl (oT rfl) (oT rfl) tF) ?_
     refine rp 27 rfl (op_loadw_fz rfl (oT rfl) rfl) ?_
     refine rp 28 rfl (op_call_pure (fun _ => rallowed_c _ _ (by assumption) (by assumption)) rfl (Opd.func _) (oS (oT rfl) (oS (oT rfl) Opds.nil))) ?_
     refine ra 5 rfl rfl rfl ?_
     refine Run.nil (FinD.mk (by kernel_rfl) ?_)
     refine nK ?_
     refine s_reg rfl ?_
     refine rm 29 rfl rfl rfl ?_
     refine rp 30 rfl (op_neq rfl (oT rfl) oC) ?_
     refine rn ?_
     refine nK ?_
     refine n_cond _ rfl (fun hb => ?_) (fun hb => ?_)
     ·have ha : alwI g g.es[i] ≠ 0 := by simpa using hb
      rw [if_pos ha] at ho
      rw [← ho]
      refine nK ?_
      refine s_reg rfl ?_
      refine rm 31 rfl rfl rfl ?_
      refine ra 2 rfl rfl rfl ?_
      refine rn ?_
      refine nK ?_
      (first | exact s_o1 hC rfl tV | exact s_o2 hC rfl tV tV | exact s_o3 hC rfl tV tV tV | exact s_out0 hC rfl | exact s_outO hC rfl rfl rfl)
     ·have ha : ¬ alwI g g.es[i] ≠ 0 := by simpa using hb
      rw [if_neg ha] at ho
      have hp : ∃ q, (0 < i → prevO g.es i = some q ∧ (g.es.map encE)[i - 1]? = some (encE q)) := by
       by_cases h0 : 0 < i
       ·obtain ⟨q, h1, h2⟩ := prev_row h0 hi
        exact ⟨q, fun _ => ⟨h1, h2⟩⟩
       ·exact ⟨⟨0, 0, 0⟩, fun h => absurd h h0⟩
      obtain ⟨q, hq⟩ := hp
      refine nK ?_
      refine s_draw mixed ?_
      refine rm 32 rfl rfl rfl ?_
      refine rp 33 rfl (op_gtr rfl (oT rfl) oC) ?_
      refine rm 34 rfl rfl rfl ?_
      refine rg 35 rfl rfl tG (op_fld_ptr (by decide) rfl (oT rfl)) ?_
      refine rk 36 rfl rfl tG (op_load1_flat rfl (oO rfl tO) tH rfl) ?_
      refine gm 37 rfl rfl tG rfl rfl ?_
      refine rg 38 rfl rfl tG (op_sub rfl (oO rfl tO) oC tI) ?_
      refine rg 39 rfl rfl tG (op_idx_fz (i - 1) rfl (oO rfl tO) (oO rfl tO) (by intro hg; have h0 : 0 < i := (by simp at hg; omega); exact ⟨by omega, (hq h0).2⟩)) ?_
      refine rg 40 rfl rfl tG (op_loadw_fz rfl (oO rfl tO) rfl) ?_
      refine rg 41 rfl rfl tG (op_fld_ptr (by decide) rfl (oT rfl)) ?_
      refine rk 42 rfl rfl tG (op_load1_flat rfl (oO rfl tO) tH rfl) ?_
      refine gm 43 rfl rfl tG rfl rfl ?_
      refine rg 44 rfl rfl tG (op_idx_fz _ rfl (oO rfl tO) (oO rfl tO) tF) ?_
      refine rg 45 rfl rfl tG (op_loadw_fz rfl (oO rfl tO) rfl) ?_
      refine rg 46 rfl rfl tG (op_call_pure (fun _ => before_c _ _) rfl (Opd.func _) (oS (oO rfl tO) (oS (oO rfl tO) Opds.nil))) ?_
      refine rg 47 rfl rfl tG (op_not rfl (oO rfl tO)) ?_
      refine rp 48 rfl (op_pick_and rfl (oT rfl) (oO rfl tO)) ?_
      refine Run.nil (FinD.mk (by kernel_rfl) ?_)
      refine nK ?_
      refine n_cond _ rfl (fun hb => ?_) (fun hb => ?_)
      ·have h0 : 0 < i := by simp at hb; omega
       rw [(hq h0).1, if_pos (by simp at hb; simpa [badP] using hb.2)] at ho
       rw [← ho]
       refine nK ?_
       refine s_reg rfl ?_
       refine rp 2 rfl (op_assign rfl oC) ?_
       refine rn ?_
       refine nK ?_
       (first | exact s_o1 hC rfl tV | exact s_o2 hC rfl tV tV | exact s_o3 hC rfl tV tV tV | exact s_out0 hC rfl | exact s_outO hC rfl rfl rfl)
      ·have hc : ¬ badP (prevO g.es i) g.es[i] = true := by
        by_cases h0 : 0 < i
        ·rw [(hq h0).1]; simp [h0, badP] at hb ⊢; exact hb
        ·have : i = 0 := by omega
         subst this; simp [prevO, badP]
       rw [if_neg hc] at ho
       refine nK ?_
       refine s_reg rfl ?_
       refine rm 20 rfl rfl rfl ?_
       refine rp 21 rfl (op_add rfl (oT rfl) oC tI) ?_
       refine ra 4 rfl rfl rfl ?_
       refine rn ?_
       refine nK ?_
       refine Next.weakS [1] [] (by rfl) (by first | exact keeps0 hC _ | exact keepsN hC _ rfl) (by repeat (first | exact trivial | refine ⟨⟨_, rfl, .inl ⟨rfl, rfl⟩⟩, ?_⟩ | refine ⟨⟨_, rfl, .inl ⟨slEq rfl tN, rfl⟩⟩, ?_⟩ | refine ⟨⟨_, rfl, .inl ⟨ivEq tX, rfl⟩⟩, ?_⟩)) (by repeat (first | exact trivial | refine ⟨ent_same rfl rfl rfl tL, ?_⟩ | refine ⟨ent_same rfl rfl (rfEq rfl tU) tL, ?_⟩ | refine ⟨ent_same rfl rfl (flEq rfl (by first | (simp; done) | (simp; omega) | (simp [encE]; done) | simp [maxC, minC])) trivial, ?_⟩)) rfl ((hK1 ho))
    ·have hie : i = g.es.length := by simp at hb; omega
     rw [hie, List.drop_length] at ho
     rw [← ho]
     simp only [chkL]
     refine nK ?_
     refine s_reg rfl ?_
     refine rp 2 rfl (op_assign rfl oC) ?_
     refine rn ?_
     refine nK ?_
     (first | exact s_o1 hC rfl tV | exact s_o2 hC rfl tV tV | exact s_o3 hC rfl tV tV tV | exact s_out0 hC rfl | exact s_outO hC rfl rfl rfl)
end Go.Proofs.Ytnkhlbljnmodbaa
namespace Go.Proofs.Ytnkhlbljnmodbaa
open Go Go.RT Go.Proofs Go.Pl
set_option linter.all false
set_option maxRecDepth 20000
theorem same_step {α : Type} [DecidableEq α] {a b : List α} {i : Nat} (ha : i < a.length) (hb : i < b.length) : (a.drop i = b.drop i) ↔ a[i] = b[i] ∧ a.drop (i + 1) = b.drop (i + 1) := by
 rw [List.drop_eq_getElem_cons ha, List.drop_eq_getElem_cons hb, List.cons.injEq]
end Go.Proofs.Ytnkhlbljnmodbaa
/- Contracts of the library, laid at this translation. Written by the kit's printer. -/
namespace Go.Proofs.Ytnkhlbljnmodbaa
open Go Go.Proofs Go.Shelf
def Try.sortInt_ren : Go.Shelf.Ren := ⟨fun | 189 => 47 | 125 => 64 | 257 => 63 | 128 => 86 | 129 => 87 | 294 => 78 | 295 => 79 | 296 => 80 | 297 => 81 | 298 => 82 | 299 => 83 | 216 => 74 | 300 => 84 | 301 => 85 | 328 => 98 | 329 => 99 | 330 => 100 | 331 => 101 | 332 => 102 | 215 => 73 | 343 => 107 | n => n, fun | 28 => 37 | 3 => 3 | 46 => 87 | 0 => 0 | 51 => 103 | 53 => 105 | 4 => 4 | 183 => 97 | 182 => 96 | 131 => 49 | 5 => 5 | 9 => 9 | 218 => 112 | 222 => 116 | 228 => 120 | 229 => 121 | n => n, fun | n => n⟩
theorem Try.sortInt : Go.Proofs.Lays.n189 Try.prog Try.sortInt_ren := {
  mixed := by kernel_rfl
  f125 := Try.func64.trans (congrArg some (by kernel_rfl))
  f128 := Try.func86.trans (congrArg some (by kernel_rfl))
  f129 := Try.func87.trans (congrArg some (by kernel_rfl))
  f189 := Try.func47.trans (congrArg some (by kernel_rfl))
  f215 := Try.func73.trans (congrArg some (by kernel_rfl))
  f216 := Try.func74.trans (congrArg some (by kernel_rfl))
  f257 := Try.func63.trans (congrArg some (by kernel_rfl))
  f294 := Try.func78.trans (congrArg some (by kernel_rfl))
  f295 := Try.func79.trans (congrArg some (by kernel_rfl))
  f296 := Try.func80.trans (congrArg some (by kernel_rfl))
  f297 := Try.func81.trans (congrArg some (by kernel_rfl))
  f298 := Try.func82.trans (congrArg some (by kernel_rfl))
  f299 := Try.func83.trans (congrArg some (by kernel_rfl))
  f300 := Try.func84.trans (congrArg some (by kernel_rfl))
  f301 := Try.func85.trans (congrArg some (by kernel_rfl))
  f328 := Try.func98.trans (congrArg some (by kernel_rfl))
  f329 := Try.func99.trans (congrArg some (by kernel_rfl))
  f330 := Try.func100.trans (congrArg some (by kernel_rfl))
  f331 := Try.func101.trans (congrArg some (by kernel_rfl))
  f332 := Try.func102.trans (congrArg some (by kernel_rfl))
  f343 := Try.func107.trans (congrArg some (by kernel_rfl))
  t0 := Try.underlying0
  a0 := Try.isAgg0
  z0 := Try.sizeOf0
  v0 := Try.zeroValue0
  t3 := Try.underlying3
  a3 := Try.isAgg3
  z3 := Try.sizeOf3
  v3 := Try.zeroValue3
  t4 := Try.underlying4
  a4 := Try.isAgg4
  z4 := Try.sizeOf4
  v4 := Try.zeroValue4
  t5 := Try.underlying5
  a5 := Try.isAgg5
  z5 := Try.sizeOf5
  v5 := Try.zeroValue5
  t9 := Try.underlying9
  a9 := Try.isAgg9
  z9 := Try.sizeOf9
  v9 := Try.zeroValue9
  t28 := Try.underlying37
  a28 := Try.isAgg37
  z28 := Try.sizeOf37
  v28 := Try.zeroValue37
  t46 := Try.underlying87
  a46 := Try.isAgg87
  z46 := Try.sizeOf87
  v46 := Try.zeroValue87
  t51 := Try.underlying103
  a51 := Try.isAgg103
  z51 := Try.sizeOf103
  v51 := Try.zeroValue103
  t53 := Try.underlying105
  a53 := Try.isAgg105
  z53 := Try.sizeOf105
  v53 := Try.zeroValue105
  t131 := Try.underlying49
  a131 := Try.isAgg49
  z131 := Try.sizeOf49
  v131 := Try.zeroValue49
  t182 := Try.underlying96
  a182 := Try.isAgg96
  z182 := Try.sizeOf96
  v182 := Try.zeroValue96
  t183 := Try.underlying97
  a183 := Try.isAgg97
  z183 := Try.sizeOf97
  v183 := Try.zeroValue97
  t218 := Try.underlying112
  a218 := Try.isAgg112
  z218 := Try.sizeOf112
  v218 := Try.zeroValue112
  t222 := Try.underlying116
  a222 := Try.isAgg116
  z222 := Try.sizeOf116
  v222 := Try.zeroValue116
  t228 := Try.underlying120
  a228 := Try.isAgg120
  z228 := Try.sizeOf120
  v228 := Try.zeroValue120
  t229 := Try.underlying121
  a229 := Try.isAgg121
  z229 := Try.sizeOf121
  v229 := Try.zeroValue121 }
def Try.sortFI_ren : Go.Shelf.Ren := ⟨fun | 6 => 56 | 15 => 64 | 14 => 72 | 28 => 86 | 29 => 87 | 20 => 89 | 21 => 90 | 22 => 91 | 23 => 92 | 24 => 93 | 25 => 94 | 26 => 95 | 27 => 96 | 46 => 103 | 47 => 99 | 48 => 100 | 49 => 104 | 50 => 105 | 57 => 108 | n => n, fun | 22 => 37 | 24 => 3 | 25 => 81 | 3 => 3 | 39 => 87 | 0 => 0 | 53 => 103 | 55 => 105 | 4 => 4 | 46 => 97 | 45 => 96 | 50 => 49 | 5 => 5 | 9 => 9 | 66 => 112 | 70 => 116 | 76 => 120 | 77 => 121 | n => n, fun | n => n⟩
theorem Try.sortFI : Go.Proofs.SlLaysF.n6 Try.prog Try.sortFI_ren := {
  mixed := by kernel_rfl
  f6 := ⟨Try.f56.name, by decide, Try.func56.trans (congrArg some (by kernel_rfl))⟩
  f14 := ⟨Try.f72.name, by decide, Try.func72.trans (congrArg some (by kernel_rfl))⟩
  f15 := Try.func64.trans (congrArg some (by kernel_rfl))
  f20 := ⟨Try.f89.name, by decide, Try.func89.trans (congrArg some (by kernel_rfl))⟩
  f21 := ⟨Try.f90.name, by decide, Try.func90.trans (congrArg some (by kernel_rfl))⟩
  f22 := ⟨Try.f91.name, by decide, Try.func91.trans (congrArg some (by kernel_rfl))⟩
  f23 := ⟨Try.f92.name, by decide, Try.func92.trans (congrArg some (by kernel_rfl))⟩
  f24 := ⟨Try.f93.name, by decide, Try.func93.trans (congrArg some (by kernel_rfl))⟩
  f25 := ⟨Try.f94.name, by decide, Try.func94.trans (congrArg some (by kernel_rfl))⟩
  f26 := ⟨Try.f95.name, by decide, Try.func95.trans (congrArg some (by kernel_rfl))⟩
  f27 := ⟨Try.f96.name, by decide, Try.func96.trans (congrArg some (by kernel_rfl))⟩
  f28 := Try.func86.trans (congrArg some (by kernel_rfl))
  f29 := Try.func87.trans (congrArg some (by kernel_rfl))
  f46 := ⟨Try.f103.name, by decide, Try.func103.trans (congrArg some (by kernel_rfl))⟩
  f47 := Try.func99.trans (congrArg some (by kernel_rfl))
  f48 := Try.func100.trans (congrArg some (by kernel_rfl))
  f49 := ⟨Try.f104.name, by decide, Try.func104.trans (congrArg some (by kernel_rfl))⟩
  f50 := ⟨Try.f105.name, by decide, Try.func105.trans (congrArg some (by kernel_rfl))⟩
  f57 := ⟨Try.f108.name, by decide, Try.func108.trans (congrArg some (by kernel_rfl))⟩
  t0 := Try.underlying0
  a0 := Try.isAgg0
  z0 := Try.sizeOf0
  v0 := Try.zeroValue0
  t3 := Try.underlying3
  a3 := Try.isAgg3
  z3 := Try.sizeOf3
  v3 := Try.zeroValue3
  t4 := Try.underlying4
  a4 := Try.isAgg4
  z4 := Try.sizeOf4
  v4 := Try.zeroValue4
  t5 := Try.underlying5
  a5 := Try.isAgg5
  z5 := Try.sizeOf5
  v5 := Try.zeroValue5
  t9 := Try.underlying9
  a9 := Try.isAgg9
  z9 := Try.sizeOf9
  v9 := Try.zeroValue9
  t22 := Try.underlying37
  a22 := Try.isAgg37
  z22 := Try.sizeOf37
  v22 := Try.zeroValue37
  a24 := Try.isAgg3
  z24 := Try.sizeOf3
  t25 := Try.underlying81
  a25 := Try.isAgg81
  z25 := Try.sizeOf81
  v25 := Try.zeroValue81
  t39 := Try.underlying87
  a39 := Try.isAgg87
  z39 := Try.sizeOf87
  v39 := Try.zeroValue87
  t45 := Try.underlying96
  a45 := Try.isAgg96
  z45 := Try.sizeOf96
  v45 := Try.zeroValue96
  t46 := Try.underlying97
  a46 := Try.isAgg97
  z46 := Try.sizeOf97
  v46 := Try.zeroValue97
  t50 := Try.underlying49
  a50 := Try.isAgg49
  z50 := Try.sizeOf49
  v50 := Try.zeroValue49
  t53 := Try.underlying103
  a53 := Try.isAgg103
  z53 := Try.sizeOf103
  v53 := Try.zeroValue103
  t55 := Try.underlying105
  a55 := Try.isAgg105
  z55 := Try.sizeOf105
  v55 := Try.zeroValue105
  t66 := Try.underlying112
  a66 := Try.isAgg112
  z66 := Try.sizeOf112
  v66 := Try.zeroValue112
  t70 := Try.underlying116
  a70 := Try.isAgg116
  z70 := Try.sizeOf116
  v70 := Try.zeroValue116
  t76 := Try.underlying120
  a76 := Try.isAgg120
  z76 := Try.sizeOf120
  v76 := Try.zeroValue120
  t77 := Try.underlying121
  a77 := Try.isAgg121
  z77 := Try.sizeOf121
  v77 := Try.zeroValue121 }
end Go.Proofs.Ytnkhlbljnmodbaa
/- Runs of equal elements cut to one. -/
namespace Go.Pl
set_option linter.all false
def ddF {α : Type} (eq : α → α → Bool) : α → List α → List α
  | _, [] => []
  | p, x :: l => bif eq x p then ddF eq x l else x :: ddF eq x l
def compL {α : Type} (eq : α → α → Bool) : List α → List α
  | [] => []
  | x :: l => x :: ddF eq x l
def lastD {α : Type} : α → List α → α
  | p, [] => p
  | _, x :: l => lastD x l
theorem ddF_snoc {α : Type} (eq : α → α → Bool) (y : α) : ∀ (l : List α) (p : α), ddF eq p (l ++ [y]) = ddF eq p l ++ bif eq y (lastD p l) then [] else [y]
  | [], p => by simp [ddF, lastD]
  | x :: l, p => by
    simp only [List.cons_append, ddF, lastD, ddF_snoc eq y l x]
    cases eq x p <;> simp
theorem lastD_get {α : Type} : ∀ (l : List α) (p : α) , (p :: l)[l.length]? = some (lastD p l)
  | [], p => rfl
  | x :: l, p => by simpa [lastD] using lastD_get l x
theorem ddF_len {α : Type} (eq : α → α → Bool) : ∀ (l : List α) (p : α), (ddF eq p l).length ≤ l.length
  | [], _ => by simp [ddF]
  | x :: l, p => by
    have := ddF_len eq l x
    simp only [ddF, List.length_cons]; cases eq x p <;> simp <;> omega
theorem compL_len {α : Type} (eq : α → α → Bool) (l : List α) : (compL eq l).length ≤ l.length := by
  cases l with
  | nil => simp [compL]
  | cons x l => have := ddF_len eq l x; simp [compL]; omega
/-- one element more -/
theorem compL_take {α : Type} (eq : α → α → Bool) (l : List α) (n : Nat) (h0 : 0 < n) (h : n < l.length) : compL eq (l.take (n + 1)) = compL eq (l.take n) ++ bif eq l[n] l[n - 1] then [] else [l[n]] := by
  cases l with
  | nil => simp at h
  | cons x l =>
    obtain ⟨m, rfl⟩ : ∃ m, n = m + 1 := ⟨n - 1, by omega⟩
    have hm : m < l.length := by simpa using h
    rw [List.take_succ_cons, List.take_succ_cons]
    simp only [compL]
    rw [List.take_succ_eq_append_getElem hm, ddF_snoc]
    have hl : lastD x (l.take m) = (x :: l)[m]'(by simp; omega) := by
      have h1 := lastD_get (l.take m) x
      have e : (l.take m).length = m := by simp; omega
      rw [e, ← List.take_succ_cons, List.getElem?_take, if_pos (by omega), List.getElem?_eq_getElem (by simp; omega)] at h1
      exact (Option.some.inj h1).symm
    rw [hl]
    simp
theorem compL_len_lt {α : Type} (eq : α → α → Bool) (l : List α) (n : Nat) (h0 : 0 < n) (h : n < l.length) (he : eq l[n] l[n - 1] = true) (j : Nat) (hj : n < j) (hjl : j ≤ l.length) : (compL eq (l.take j)).length < j := by
  obtain ⟨d, rfl⟩ : ∃ d, j = n + 1 + d := ⟨j - (n + 1), by omega⟩
  clear hj
  induction d with
  | zero =>
    rw [Nat.add_zero, compL_take eq l n h0 h, he, cond_true, List.append_nil]
    have := compL_len eq (l.take n)
    simp at this; omega
  | succ d ih =>
    have := ih (by omega)
    rw [← Nat.add_assoc, compL_take eq l (n + 1 + d) (by omega) (by omega), List.length_append]
    cases eq l[n + 1 + d] l[n + 1 + d - 1] <;> simp <;> omega
theorem compL_one {α : Type} (eq : α → α → Bool) (l : List α) (h : 0 < l.length) : compL eq (l.take 1) = l.take 1 := by
  cases l with
  | nil => simp at h
  | cons x l => simp [compL, ddF]
/-- writing at the end of what is kept -/
theorem set_kept {α : Type} (c l : List α) (x : α) (h : c.length < l.length) : (c ++ l.drop c.length).set c.length x = (c ++ [x]) ++ l.drop (c ++ [x]).length := by
  have e := List.drop_eq_getElem_cons h
  rw [List.set_append, if_neg (by omega), Nat.sub_self, e, List.set_cons_zero]
  simp
theorem kept_get {α : Type} (c l : List α) (j : Nat) (h : c.length ≤ j) : (c ++ l.drop c.length)[j]? = l[j]? := by
  rw [List.getElem?_append, if_neg (by omega), List.getElem?_drop]; congr 1; omega
theorem kept_len {α : Type} (c l : List α) (h : c.length ≤ l.length) : (c ++ l.drop c.length).length = l.length := by simp; omega
end Go.Pl
/- The kit's contract of slices.SortFunc, turned into one of the engine's. -/
namespace Go.RT
open Go Go.Proofs Go.Sort Go.Shelf
set_option linter.all false
theorem Mem.reheap {C : Cx} {H H' : Hp} {nx : Nat} {S : Nat → Prop} {m : Ids} {w : World} (k1 : Mem C H nx S m w) (hh : ∀ id, hlook H' id = hlook H id) : Mem C H' nx S m w :=
  ⟨k1.os, k1.tape, k1.output, k1.fz, k1.size, k1.frame, k1.le, k1.sub, k1.n0, fun id o h => k1.objs id o ((hh id).symm.trans h), fun id o b h => k1.blk id o b ((hh id).symm.trans h), fun a b o1 o2 bb h1 h2 => k1.inj a b o1 o2 bb ((hh a).symm.trans h1) ((hh b).symm.trans h2), k1.stab, k1.fresh, k1.nkeep (Le.refl _ _ _) (Nat.le_refl _) (fun _ _ _ _ _ _ h => h.of fun o h => (hh _).symm.trans h) (fun _ _ _ _ _ _ _ c e _ _ _ k2 k3 => ⟨c, e, k2, k3⟩) (fun b' _ h2 h3 => ⟨rfl, h2, fun id2 o2 h => h3 _ _ ((hh id2).symm.trans h)⟩)⟩
def grown (w : World) (os : Array Obj) (q : Nat) : World := { w with heap := w.heap ++ os, drawn := w.drawn + q }
theorem grown_old (w : World) (os : Array Obj) (q : Nat) {b : Nat} (hb : b < w.heap.size) : (grown w os q).heap[b]? = w.heap[b]? := by simp [grown, Array.getElem?_append, hb]
theorem Mem.grow {C : Cx} {H : Hp} {nx : Nat} {S : Nat → Prop} {m : Ids} {w : World} (hm : Mem C H nx S m w) (os : Array Obj) (q : Nat) : Mem C H nx S m (grown w os q) ∧ Le S m w S m (grown w os q) := by
  have hsz : w.heap.size ≤ (grown w os q).heap.size := by simp [grown]
  have hle : Le S m w S m (grown w os q) := by
    refine ⟨fun _ h => h, fun b hb => grown_old w os q (hm.stab b hb), fun _ _ h => h, fun b n ⟨c, e, fr, h1, h2⟩ => ⟨c, e, fr, ?_, h2⟩⟩
    rw [grown_old w os q (Array.getElem?_eq_some_iff.1 h1).1]; exact h1
  refine ⟨hm.step hle ⟨rfl, Nat.le_add_right _ _⟩ rfl rfl (fun a ha => ?_) hsz (fun b hb _ => grown_old w os q (Nat.lt_of_lt_of_le hb hm.size)) (fun b hb => .inl hb) (fun id o ho => (hm.objs id o ho).mono hle fun b hb => grown_old w os q (hm.blk id o b ho hb).2.1)
    (fun id o b ho hb => ?_) hm.inj (fun b hb => Nat.lt_of_lt_of_le (hm.stab b hb) hsz) hm.fresh (hm.nkeep hle hsz (fun _ _ _ _ _ _ h => h) (fun id sz i j isz irows b2 c2 e2 u _ _ q2 q3 => ⟨c2, e2, (grown_old w os q (Array.getElem?_eq_some_iff.1 q2).1).trans q2, q3⟩) (fun b' h1 h2 h3 => ⟨grown_old w os q h1, h2, h3⟩)), hle⟩
  · simp only [World.frozen?, grown_old w os q ha]
  · obtain ⟨h1, h2, h3⟩ := hm.blk id o b ho hb
    exact ⟨h1, Nat.lt_of_lt_of_le h2 hsz, h3⟩
theorem mapBlock_setRow {w : World} {b : Nat} {c : Array Value} {e : TypeId} {fr : Nat × Nat} (f : Array Value → Array Value) (hc : w.heap[b]? = some (.cells c e fr)) : mapBlock w b f = w.setRow b (f c) := by
  unfold mapBlock World.setRow
  congr 1
  apply Array.ext_getElem?
  intro i
  simp only [Array.getElem?_modify]
  by_cases h : b = i
  · subst h
    simp [hc, onCells]
  · simp [h]
/-- a run that owns nothing: what it leaves is the world it found, grown -/
theorem Mem.is_grown {C : Cx} {nx : Nat} {S : Nat → Prop} {m : Ids} {w : World} (hm : Mem C [] nx S m w) (ho : ∀ b, ¬ C.own0 b) : ∃ q os, w = grown C.w0 os q := by
  refine ⟨w.drawn - C.w0.drawn, w.heap.extract C.w0.heap.size w.heap.size, ?_⟩
  have h1 : w.heap = C.w0.heap ++ w.heap.extract C.w0.heap.size w.heap.size := by
    apply Array.ext_getElem?
    intro i
    by_cases hi : i < C.w0.heap.size
    · rw [Array.getElem?_append_left hi]; exact hm.frame i hi (ho i)
    · rw [Array.getElem?_append_right (by omega), Array.getElem?_extract]
      have := hm.size
      by_cases h2 : i < w.heap.size
      · rw [if_pos (by simp; omega)]; congr 1; omega
      · rw [if_neg (by simp; omega)]; exact Array.getElem?_eq_none (by omega)
  have h2 : w.drawn = C.w0.drawn + (w.drawn - C.w0.drawn) := by have := hm.os.2; omega
  obtain ⟨heap, tape, drawn, os, output⟩ := w
  unfold grown
  simp only at h1 h2
  have e1 := hm.tape; have e2 := hm.os.1; have e3 := hm.output
  simp only at e1 e2 e3
  subst e1 e2 e3
  simp only [World.mk.injEq, true_and, and_true]
  exact ⟨h1, h2⟩
/-- what slices.SortFunc leaves -/
def sortBy {β : Type} [Inhabited β] (cf : β → β → Int) (l : List β) : List β := (pdq (ltOf cf) l.toArray 0 l.length (Lib.bitLen l.length) true true).toList
theorem sortBy_spec {β : Type} [Inhabited β] (cf : β → β → Int) (hO : SWO (ltOf cf)) (l : List β) : (sortBy cf l).Perm l ∧ (sortBy cf l).length = l.length ∧ ∀ (i j : Nat) (x y : β), i < j → (sortBy cf l)[i]? = some x → (sortBy cf l)[j]? = some y → ¬ cf y x < 0 := by
  have h := pdq_sorts (ltOf cf) hO l.toArray 0 l.length (Lib.bitLen l.length) true true (Nat.zero_le _) (by simp) (Or.inl rfl)
  obtain ⟨⟨p1, p2, p3⟩, p4⟩ := h
  have e : (sortBy cf l).length = l.length := by simpa [sortBy] using p1
  refine ⟨?_, e, fun i j x y hij hx hy => ?_⟩
  · have : ∀ (a : Array β) n, a.size = n → a.extract 0 n = a := fun a n hn => by subst hn; simp
    rw [this _ _ (by simpa using p1), this _ _ (by simp)] at p3
    simpa [sortBy] using p3
  · have hj : j < l.length := by rw [← e]; exact (List.getElem?_eq_some_iff.1 hy).1
    have hj' : j < (pdq (ltOf cf) l.toArray 0 l.length (Lib.bitLen l.length) true true).size := by rw [p1]; simpa using hj
    have := p4 i j (Nat.zero_le _) hij hj
    rw [getElem!_pos _ j hj', getElem!_pos _ i (by omega)] at this
    simp only [sortBy, Array.getElem?_toList] at hx hy
    rw [Array.getElem?_eq_getElem (by omega)] at hx hy
    cases hx; cases hy
    simpa [ltOf] using this
variable {P : Program} {ρ : Ren}
end Go.RT
/- The kit's contract of slices.Sort at []int, turned into one of the engine's. -/
namespace Go.RT
open Go Go.Proofs Go.Sort Go.Shelf
set_option linter.all false
variable {P : Program} {ρ : Ren}
def srtI (l : List Int) : List Int := l.mergeSort fun x y => decide (x ≤ y)
theorem srtI_len (l : List Int) : (srtI l).length = l.length := List.length_mergeSort l
theorem srtI_perm (l : List Int) : (srtI l).Perm l := List.mergeSort_perm l _
theorem srtI_sorted (l : List Int) : (srtI l).Pairwise (fun x y => x ≤ y) := by
  have := List.pairwise_mergeSort (le := fun x y : Int => decide (x ≤ y)) (fun a b c h1 h2 => by simp at h1 h2 ⊢; omega) (fun a b => by simp; omega) l
  exact this.imp (fun h => by simpa using h)
theorem sortI_meets (L : Lays.n189 P ρ) {l : List Int} (hl : l.length < 4611686018427387904) :
    Meets P (ρ.f 189) [.sl 0 1 0 l.length] 1 [(0, some (.flat 1 (l.map fun x => [If .i64 x])))] (.fz (.tup [])) [(0, some (.flat 1 ((srtI l).map fun x => [If .i64 x])))] 1 := by
  refine ⟨fun C vs hn hm hlv hr => ?_⟩
  have tupR : ∀ w' S' m', Rep w' S' m' (.tuple #[]) (.fz (.tup [])) := fun w' S' m' => .fz _ _ (.tup #[] [] rfl (fun i c f hc => by simp at hc))
  match vs, hlv, hr with
  | [v0], _, hr =>
  have r0 := hr 0 v0 _ rfl rfl
  have ho := hm.objs 0 _ rfl
  have hs2 := srtI_len l
  generalize hll : l.length = n at r0 hl
  cases r0 with
  | sl0 =>
    have : l = [] := List.length_eq_zero_iff.1 hll
    subst this
    have e : srtI ([] : List Int) = [] := List.length_eq_zero_iff.1 hs2
    rw [e]
    refine (Any.slices_Sort_int_none L none 0 C.w0).mono fun e w' ⟨he, hw⟩ => ?_
    subst hw
    exact ⟨_, _, _, he, hm, tupR _ _ _⟩
  | sl _ _ _ _ b cap h hroom hcap hmx =>
    rcases ho with ⟨h2, _⟩ | ⟨b', c, e, h2, h3, h4⟩
    · rw [h] at h2; cases h2
    · rw [h] at h2; cases h2
      obtain ⟨hsz, _, hR⟩ := h4
      obtain ⟨hb1, hb2, hb3⟩ := hm.blk 0 _ b rfl h
      have hcl : ∀ j (hj : j < l.length), c[j]? = some (.int .i64 l[j]) := fun j hj => by
        obtain ⟨u, hu, _, hf⟩ := hR j 0 [If .i64 l[j]] (If .i64 l[j]) (by simp [hj]) rfl
        cases hf
        simpa using hu
      have hH : Holds (Value.int .i64) C.w0 b (0 * 1) l.toArray := by
        intro j hj
        simp at hj
        refine ⟨?_, ?_⟩
        · simp only [World.cell?, h3, Nat.zero_mul, Nat.zero_add]
          rw [getElem!_pos _ j (by simpa using hj)]
          simpa using hcl j hj
        · simp [World.frozen?, h3]
      have hcall := Any.slices_Sort_int L b (0 * 1) cap l C.w0 hH hb2 (by rw [hll]; exact hl)
      rw [hll] at hcall
      refine hcall.mono fun ex w' ⟨he, q, os, hw⟩ => ?_
      subst hw
      have hset : grow (putRow (Value.int .i64) (Go.Sort.ahead C.w0 q) b (0 * 1) (srtI l).toArray) os = grown (C.w0.setRow b (putCells (Value.int .i64) 0 (srtI l).toArray c)) os q := by
        unfold putRow
        rw [mapBlock_setRow (w := Go.Sort.ahead C.w0 q) (b := b) (c := c) (e := e) (fr := (0, 0)) _ h3, Nat.zero_mul]
        rfl
      have hset2 : grow (putRow (Value.int .i64) (Go.Sort.ahead C.w0 q) b (0 * 1) (l.mergeSort fun x y => decide (x ≤ y)).toArray) os = grown (C.w0.setRow b (putCells (Value.int .i64) 0 (srtI l).toArray c)) os q := hset
      rw [hset2]
      have hps : (putCells (Value.int .i64) 0 (srtI l).toArray c).size = c.size := by simp [putCells]
      have hrr : ∀ w' : World, RowsRep (FRep w' C.S0) (putCells (Value.int .i64) 0 (srtI l).toArray c) 1 ((srtI l).map fun x => [If .i64 x]) := fun w' => by
        refine ⟨by rw [hps]; simpa [hs2] using hsz, fun r hr => ?_, fun i j r p hi hj => ?_⟩
        · obtain ⟨x, _, rfl⟩ := List.mem_map.1 hr
          rfl
        · rw [List.getElem?_map] at hi
          obtain ⟨x, hx, rfl⟩ := Option.map_eq_some_iff.1 hi
          have hin : i < (srtI l).length := (List.getElem?_eq_some_iff.1 hx).1
          match j, hj with
          | 0, hj =>
            cases hj
            have hlt2 : i < c.size := by simp at hsz; omega
            refine ⟨.int .i64 x, ?_, rfl, .lit _⟩
            unfold putCells
            rw [Nat.mul_one, Nat.add_zero, Array.getElem?_mapIdx, Array.getElem?_eq_getElem hlt2]
            simp only [Option.map_some, Nat.zero_le, true_and, Nat.zero_add, List.size_toArray, Nat.sub_zero]
            rw [if_pos hin, getElem!_pos _ i (by simpa using hin)]
            rw [List.getElem?_eq_getElem hin] at hx
            cases hx; simp
          | j + 1, hj => simp at hj
      obtain ⟨m1, hle1⟩ := hm.write (id := 0) (o' := .flat 1 ((srtI l).map fun x => [If .i64 x])) rfl h h3 hps (plain_hown (by exact trivial)) (fun w' hle hb => .inr ⟨b, _, e, h, hb, hrr w'⟩)
      refine ⟨_, _, _, he, ((m1.reheap (H' := [(0, some (.flat 1 ((srtI l).map fun x => [If .i64 x])))]) (fun id => ?_)).grow os q).1, tupR _ _ _⟩
      simp only [hlook]
      cases Nat.beq 0 id <;> rfl
end Go.RT
/- The nodes to which edges lead: sorted and cut, or put in one by one. -/
namespace Go.Pl
open Go.RT
set_option linter.all false
abbrev eqI (x y : Int) : Bool := decide (x = y)
def tosL (n : Int) (l : List Edg) : List Int := (l.filter fun e => decide (e.f = n)).map (·.t)
def Asc (l : List Int) : Prop := l.Pairwise (fun x y => x < y)
theorem Asc.ext : ∀ {a b : List Int}, Asc a → Asc b → (∀ p, p ∈ a ↔ p ∈ b) → a = b
  | [], [], _, _, _ => rfl
  | [], y :: b, _, _, h => by have := (h y).2 (List.mem_cons_self ..); cases this
  | x :: a, [], _, _, h => by have := (h x).1 (List.mem_cons_self ..); cases this
  | x :: a, y :: b, ha, hb, h => by
    obtain ⟨a1, a2⟩ := List.pairwise_cons.1 ha
    obtain ⟨b1, b2⟩ := List.pairwise_cons.1 hb
    have e : x = y := by
      rcases List.mem_cons.1 ((h x).1 (List.mem_cons_self ..)) with e | h1
      · exact e
      · rcases List.mem_cons.1 ((h y).2 (List.mem_cons_self ..)) with e | h2
        · exact e.symm
        · have := b1 x h1; have := a1 y h2; omega
    subst e
    refine congrArg _ (Asc.ext a2 b2 fun p => ?_)
    constructor
    · intro hp
      rcases List.mem_cons.1 ((h p).1 (List.mem_cons_of_mem _ hp)) with e | h1
      · subst e; have := a1 p hp; omega
      · exact h1
    · intro hp
      rcases List.mem_cons.1 ((h p).2 (List.mem_cons_of_mem _ hp)) with e | h1
      · subst e; have := b1 p hp; omega
      · exact h1
theorem ddF_asc : ∀ (l : List Int) (p : Int), (p :: l).Pairwise (fun x y => x ≤ y) → Asc (p :: ddF eqI p l) ∧ ∀ x, x ∈ p :: ddF eqI p l ↔ x ∈ p :: l
  | [], p, _ => ⟨by simp [Asc, ddF], fun x => by simp [ddF]⟩
  | y :: l, p, h => by
    obtain ⟨h1, h2⟩ := List.pairwise_cons.1 h
    obtain ⟨i1, i2⟩ := ddF_asc l y h2
    have hpy := h1 y (List.mem_cons_self ..)
    simp only [ddF]
    by_cases e : y = p
    · subst e
      simp only [eqI, decide_true, cond_true]
      refine ⟨i1, fun x => ?_⟩
      rw [i2]; simp
    · have : eqI y p = false := by simp [eqI, e]
      rw [this, cond_false]
      refine ⟨List.pairwise_cons.2 ⟨fun z hz => ?_, i1⟩, fun x => ?_⟩
      · have := (i2 z).1 hz
        rcases List.mem_cons.1 this with rfl | hz
        · omega
        · have := (List.pairwise_cons.1 h2).1 z hz; omega
      · rw [List.mem_cons, i2, List.mem_cons]; simp
theorem comp_asc {l : List Int} (h : l.Pairwise (fun x y => x ≤ y)) : Asc (compL eqI l) ∧ ∀ x, x ∈ compL eqI l ↔ x ∈ l := by
  cases l with
  | nil => exact ⟨by simp [Asc, compL], fun x => by simp [compL]⟩
  | cons p l => exact ddF_asc l p h
def nextI (n : Int) (l : List Edg) : List Int := compL eqI (srtI (tosL n l))
theorem nextI_spec (n : Int) (l : List Edg) : Asc (nextI n l) ∧ ∀ x, x ∈ nextI n l ↔ ∃ e ∈ l, e.f = n ∧ e.t = x := by
  obtain ⟨h1, h2⟩ := comp_asc (srtI_sorted (tosL n l))
  refine ⟨h1, fun x => ?_⟩
  show x ∈ compL eqI _ ↔ _
  rw [h2, (srtI_perm _).mem_iff]
  simp [tosL, and_assoc]
theorem nextI_len (n : Int) (l : List Edg) : (nextI n l).length ≤ l.length := by
  have h1 := compL_len eqI (srtI (tosL n l))
  have h2 := srtI_len (tosL n l)
  have h3 : (tosL n l).length ≤ l.length := by simp [tosL]; exact List.length_filter_le _ _
  unfold nextI; omega
end Go.Pl
/- The heap, on lists: what the program's loops make. -/
namespace Go.Pl
open Go Go.RT
set_option linter.all false
abbrev encT (x : Nat) : List FV := [If .i64 (x : Int)]
structure Hq where
  it : List Nat
  pl : List Int
  ky : List Int
def Hq.item (h : Hq) (i : Nat) : Nat := h.it.getD i 0
def Hq.key (h : Hq) (v : Nat) : Int := h.ky.getD v 0
/-- items are nodes -/
structure Hq.Ok (h : Hq) : Prop where
  len : h.pl.length = h.ky.length
  lt : ∀ v ∈ h.it, v < h.pl.length
theorem Hq.Ok.item {h : Hq} (o : h.Ok) {i : Nat} (hi : i < h.it.length) : h.item i < h.pl.length := by
  unfold Hq.item; rw [List.getD_eq_getElem?_getD, List.getElem?_eq_getElem hi]; exact o.lt _ (List.getElem_mem hi)
def lessH (h : Hq) (i j : Nat) : Bool := decide (h.key (h.item i) < h.key (h.item j)) || decide (h.key (h.item i) = h.key (h.item j)) && decide ((h.item i : Int) < (h.item j : Int))
def swapH (h : Hq) (i j : Nat) : Hq := ⟨(h.it.set i (h.item j)).set j (h.item i), (h.pl.set (h.item j) i).set (h.item i) j, h.ky⟩
theorem swapH_len (h : Hq) (i j : Nat) : (swapH h i j).it.length = h.it.length ∧ (swapH h i j).pl.length = h.pl.length ∧ (swapH h i j).ky = h.ky := by simp [swapH]
theorem Hq.Ok.swap {h : Hq} (o : h.Ok) {i j : Nat} (hi : i < h.it.length) (hj : j < h.it.length) : (swapH h i j).Ok := by
  refine ⟨by simp [swapH, o.len], fun v hv => ?_⟩
  simp only [swapH, List.length_set]
  rcases List.mem_or_eq_of_mem_set hv with h1 | rfl
  · rcases List.mem_or_eq_of_mem_set h1 with h2 | rfl
    · exact o.lt v h2
    · exact o.item hj
  · exact o.item hi
def upH (h : Hq) (i : Nat) : Hq × Nat :=
  if hi : 0 < i then (if lessH h i ((i - 1) / 2) = true then upH (swapH h i ((i - 1) / 2)) ((i - 1) / 2) else (h, i)) else (h, i)
termination_by i
decreasing_by omega
/-- the child that comes first -/
def kidH (h : Hq) (i n : Nat) : Nat := if 2 * i + 1 + 1 < n ∧ lessH h (2 * i + 1 + 1) (2 * i + 1) = true then 2 * i + 1 + 1 else 2 * i + 1
theorem kidH_gt (h : Hq) (i n : Nat) : i < kidH h i n := by unfold kidH; split <;> omega
def downH (h : Hq) (i n : Nat) : Hq :=
  if hk : kidH h i n < n then (if lessH h (kidH h i n) i = true then downH (swapH h i (kidH h i n)) (kidH h i n) n else h) else h
termination_by n - i
decreasing_by have := kidH_gt h i n; omega
def settleH (h : Hq) (i n : Nat) : Hq := downH (upH h i).1 (upH h i).2 n
end Go.Pl
namespace Go.Pl
theorem up_step {h : Hq} {i : Nat} (hi : 0 < i) (hl : lessH h i ((i - 1) / 2) = true) : upH h i = upH (swapH h i ((i - 1) / 2)) ((i - 1) / 2) := by
  rw [upH, dif_pos hi, if_pos hl]
theorem up_stop {h : Hq} {i : Nat} (hh : ¬ (0 < i ∧ lessH h i ((i - 1) / 2) = true)) : upH h i = (h, i) := by
  rw [upH]
  by_cases hi : 0 < i
  · rw [dif_pos hi, if_neg (fun e => hh ⟨hi, e⟩)]
  · rw [dif_neg hi]
theorem down_step {h : Hq} {i n : Nat} (hk : kidH h i n < n) (hl : lessH h (kidH h i n) i = true) : downH h i n = downH (swapH h i (kidH h i n)) (kidH h i n) n := by
  rw [downH, dif_pos hk, if_pos hl]
theorem down_stop {h : Hq} {i n : Nat} (hh : ¬ (kidH h i n < n ∧ lessH h (kidH h i n) i = true)) : downH h i n = h := by
  rw [downH]
  by_cases hk : kidH h i n < n
  · rw [dif_pos hk, if_neg (fun e => hh ⟨hk, e⟩)]
  · rw [dif_neg hk]
/-- heaps of one size -/
def Like (h h' : Hq) : Prop := h'.Ok ∧ h'.it.length = h.it.length ∧ h'.pl.length = h.pl.length ∧ h'.ky = h.ky
theorem Like.swap {h h' : Hq} (l : Like h h') {i j : Nat} (hi : i < h.it.length) (hj : j < h.it.length) : Like h (swapH h' i j) := by
  obtain ⟨l1, l2, l3, l4⟩ := l
  obtain ⟨s1, s2, s3⟩ := swapH_len h' i j
  exact ⟨l1.swap (by omega) (by omega), s1.trans l2, s2.trans l3, s3.trans l4⟩
end Go.Pl
namespace Go.Proofs.Ytnkhlbljnmodbaa
open Go Go.RT Go.Proofs Go.Pl
set_option linter.all false
set_option maxRecDepth 20000
abbrev OI (l : List Int) : Option Ob := some (.flat 1 (l.map encN))
abbrev OE (l : List Edg) : Option Ob := some (.flat 3 (l.map encE))
abbrev OT (l : List Nat) : Option Ob := some (.flat 1 (l.map encT))
abbrev HH (h : Hq) : Hp := [(0, some (.refs 3 [[.sl 1 1 0 h.it.length, .sl 2 1 0 h.pl.length, .sl 3 1 0 h.ky.length]])), (1, OT h.it), (2, OI h.pl), (3, OI h.ky)]
theorem row_of {α : Type} (f : α → List FV) (l : List α) (i : Nat) (d : α) (h : i < l.length) : (l.map f)[i]? = some (f (l.getD i d)) := by
 rw [List.getElem?_map, List.getElem?_eq_getElem h, List.getD_eq_getElem?_getD, List.getElem?_eq_getElem h]; rfl
theorem less_c (h : Hq) (o : h.Ok) (i j : Nat) (hi : i < h.it.length) (hj : j < h.it.length) : Meets Try.prog 67 [.ptr 0 3 0 0, IV .i64 i, IV .i64 j] 4 (HH h) (BV (lessH h i j)) (HH h) 4 := by
 have ri := row_of encT h.it i 0 hi
 have rj := row_of encT h.it j 0 hj
 have hv := o.item hi
 have hw := o.item hj
 have hol := o.len
 unfold Hq.item at hv hw
 unfold lessH Hq.item
 generalize h.it.getD i 0 = v at *
 generalize h.it.getD j 0 = w at *
 have rv := row_of encN h.ky v 0 (by omega)
 have rw_ := row_of encN h.ky w 0 (by omega)
 unfold Hq.key
 generalize h.ky.getD v 0 = a at *
 generalize h.ky.getD w 0 = b at *
 refine Meets.intro Try.func67 rfl (Nat.le_of_ble_eq_true rfl) fun C hC => ?_
 simp only [List.map, argEnv, Nat.reduceAdd]
 refine nK2 ?_
 refine s_reg rfl ?_
 refine rp 6 rfl (op_assign rfl oC) ?_
 refine rn ?_
 refine nK2 ?_
 refine s_draw mixed ?_
 refine rm 9 rfl rfl rfl ?_
 refine rp 10 rfl (op_nilck_ptr rfl (oT rfl)) ?_
 refine rp 11 rfl (op_fld_ptr (by decide) rfl (oT rfl)) ?_
 refine rl 12 rfl (op_load1_refs rfl (oT rfl) tH rfl) ?_
 refine rm 13 rfl rfl rfl ?_
 refine rp 14 rfl (op_idx_sl0 _ rfl (oT rfl) (oT rfl) tD) ?_
 refine rl 15 rfl (op_load1_flat rfl (oT rfl) tH rfl) ?_
 refine rm 16 rfl rfl rfl ?_
 refine rp 17 rfl (op_nilck_ptr rfl (oT rfl)) ?_
 refine rp 18 rfl (op_fld_ptr (by decide) rfl (oT rfl)) ?_
 refine rl 19 rfl (op_load1_refs rfl (oT rfl) tH rfl) ?_
 refine rm 20 rfl rfl rfl ?_
 refine rp 21 rfl (op_idx_sl0 _ rfl (oT rfl) (oT rfl) tD) ?_
 refine rl 22 rfl (op_load1_flat rfl (oT rfl) tH rfl) ?_
 refine ra 7 rfl rfl rfl ?_
 refine ra 8 rfl rfl rfl ?_
 refine Run.nil (FinD.mk (by kernel_rfl) ?_)
 refine nK2 ?_
 refine s_draw mixed ?_
 refine rm 23 rfl rfl rfl ?_
 refine rp 24 rfl (op_nilck_ptr rfl (oT rfl)) ?_
 refine rp 25 rfl (op_fld_ptr (by decide) rfl (oT rfl)) ?_
 refine rl 26 rfl (op_load1_refs rfl (oT rfl) tH rfl) ?_
 refine rm 27 rfl rfl rfl ?_
 refine rp 28 rfl (op_idx_sl0 _ rfl (oT rfl) (oT rfl) tD) ?_
 refine rl 29 rfl (op_load1_flat rfl (oT rfl) tH rfl) ?_
 refine rm 30 rfl rfl rfl ?_
 refine rp 31 rfl (op_nilck_ptr rfl (oT rfl)) ?_
 refine rp 32 rfl (op_fld_ptr (by decide) rfl (oT rfl)) ?_
 refine rl 33 rfl (op_load1_refs rfl (oT rfl) tH rfl) ?_
 refine rm 34 rfl rfl rfl ?_
 refine rp 35 rfl (op_idx_sl0 _ rfl (oT rfl) (oT rfl) tD) ?_
 refine rl 36 rfl (op_load1_flat rfl (oT rfl) tH rfl) ?_
 refine rp 37 rfl (op_lss rfl (oT rfl) (oT rfl)) ?_
 refine rm 38 rfl rfl rfl ?_
 refine gm 39 rfl rfl tG rfl rfl ?_
 refine rg 40 rfl rfl tG (op_nilck_ptr rfl (oO rfl tO)) ?_
 refine rg 41 rfl rfl tG (op_fld_ptr (by decide) rfl (oO rfl tO)) ?_
 refine rk 42 rfl rfl tG (op_load1_refs rfl (oO rfl tO) tH rfl) ?_
 refine gm 43 rfl rfl tG rfl rfl ?_
 refine rg 44 rfl rfl tG (op_idx_sl0 _ rfl (oO rfl tO) (oO rfl tO) tD) ?_
 refine rk 45 rfl rfl tG (op_load1_flat rfl (oO rfl tO) tH rfl) ?_
 refine gm 46 rfl rfl tG rfl rfl ?_
 refine rg 47 rfl rfl tG (op_nilck_ptr rfl (oO rfl tO)) ?_
 refine rg 48 rfl rfl tG (op_fld_ptr (by decide) rfl (oO rfl tO)) ?_
 refine rk 49 rfl rfl tG (op_load1_refs rfl (oO rfl tO) tH rfl) ?_
 refine gm 50 rfl rfl tG rfl rfl ?_
 refine rg 51 rfl rfl tG (op_idx_sl0 _ rfl (oO rfl tO) (oO rfl tO) tD) ?_
 refine rk 52 rfl rfl tG (op_load1_flat rfl (oO rfl tO) tH rfl) ?_
 refine rg 53 rfl rfl tG (op_eql rfl (oO rfl tO) (oO rfl tO)) ?_
 refine rg 54 rfl rfl tG (op_move rfl (oO rfl tO)) ?_
 refine gm 55 rfl rfl tG rfl rfl ?_
 refine gm 56 rfl rfl tG rfl rfl ?_
 refine rg 57 rfl rfl tG (op_lss rfl (oO rfl tO) (oO rfl tO)) ?_
 refine rg 58 rfl rfl tG (op_pick_and rfl (oO rfl tO) (oO rfl tO)) ?_
 refine rp 59 rfl (op_pick_or rfl (oT rfl) (oO rfl tO)) ?_
 refine ra 6 rfl rfl rfl ?_
 refine Run.nil (FinD.mk (by kernel_rfl) ?_)
 refine nK2 ?_
 refine Next.weak [0, 1, 2, 3] [] (by rfl) (keepsN hC _ rfl) (G' := [(6, .fz _)]) (H' := HH h) (by repeat (first | exact trivial | refine ⟨⟨_, rfl, .inl ⟨rfl, rfl⟩⟩, ?_⟩ | refine ⟨⟨_, rfl, .inl ⟨slEq rfl tN, rfl⟩⟩, ?_⟩ | refine ⟨⟨_, rfl, .inl ⟨ivEq tX, rfl⟩⟩, ?_⟩)) (by exact ⟨ent_same rfl rfl rfl tL, ⟨ent_same rfl rfl rfl tL, ⟨ent_same rfl rfl rfl tL, ⟨ent_same rfl rfl rfl tL, trivial⟩⟩⟩⟩) (fun _ h => by simp at h) ?_
 exact n_out1 rfl (by rfl) rfl rfl
theorem swap_c (h : Hq) (o : h.Ok) (i j : Nat) (hi : i < h.it.length) (hj : j < h.it.length) : Meets Try.prog 68 [.ptr 0 3 0 0, IV .i64 i, IV .i64 j] 4 (HH h) (.fz (.tup [])) (HH (swapH h i j)) 4 := by
 have ri := row_of encT h.it i 0 hi
 have rj := row_of encT h.it j 0 hj
 have hv := o.item hi
 have hw := o.item hj
 unfold Hq.item at hv hw
 unfold swapH Hq.item
 have ril : i < (h.it.map encT).length := by rw [List.length_map]; exact hi
 have rjl : j < (h.it.map encT).length := by rw [List.length_map]; exact hj
 generalize h.it.getD i 0 = v at *
 generalize h.it.getD j 0 = w at *
 have rv := row_of encN h.pl v 0 (by omega)
 have rw_ := row_of encN h.pl w 0 (by omega)
 have s1 : ((h.it.map encT).set i (encT w))[j]? = some (if i = j then encT w else encT w) := by
  rw [List.getElem?_set]; by_cases e : i = j
  ·subst e; rw [if_pos rfl, if_pos ril, if_pos rfl]
  ·rw [if_neg e, if_neg e]; exact rj
 have s2 : (((h.it.map encT).set i (encT w)).set j (encT v))[i]? = some (encT w) := by
  rw [List.getElem?_set]; by_cases e : j = i
  ·subst e
   rw [ri] at rj; injection rj with e2
   rw [if_pos rfl, if_pos (by simpa using ril), e2]
  ·rw [if_neg e, List.getElem?_set, if_pos rfl, if_pos ril]
 have s3 : (((h.it.map encT).set i (encT w)).set j (encT v))[j]? = some (encT v) := by
  rw [List.getElem?_set, if_pos rfl, if_pos (by simpa using rjl)]
 have s4 : ((h.pl.map encN).set w [If .i64 (i : Int)])[v]? = some (((h.pl.map encN).set w [If .i64 (i : Int)]).getD v []) := by
  rw [List.getD_eq_getElem?_getD, List.getElem?_eq_getElem (by simp; omega)]; rfl
 have l4 : ∀ z : List FV, ((h.pl.map encN).set w [If .i64 (i : Int)])[v]? = some z → z.length = 1 := fun z hz => by
  rcases List.mem_or_eq_of_mem_set (List.mem_of_getElem? hz) with h1 | rfl
  ·obtain ⟨q, _, rfl⟩ := List.mem_map.1 h1; rfl
  ·rfl
 have l5 := l4 _ s4
 generalize ((h.pl.map encN).set w [If .i64 (i : Int)]).getD v [] = z at *
 simp only [ite_self] at s1
 refine Meets.intro Try.func68 rfl (Nat.le_of_ble_eq_true rfl) fun C hC => ?_
 simp only [List.map, argEnv, Nat.reduceAdd]
 refine nK2 ?_
 refine s_draw mixed ?_
 refine rm 6 rfl rfl rfl ?_
 refine rp 7 rfl (op_nilck_ptr rfl (oT rfl)) ?_
 refine rp 8 rfl (op_fld_ptr (by decide) rfl (oT rfl)) ?_
 refine rl 9 rfl (op_load1_refs rfl (oT rfl) tH rfl) ?_
 refine rm 10 rfl rfl rfl ?_
 refine rm 11 rfl rfl rfl ?_
 refine rp 12 rfl (op_nilck_ptr rfl (oT rfl)) ?_
 refine rp 13 rfl (op_fld_ptr (by decide) rfl (oT rfl)) ?_
 refine rl 14 rfl (op_load1_refs rfl (oT rfl) tH rfl) ?_
 refine rm 15 rfl rfl rfl ?_
 refine rm 16 rfl rfl rfl ?_
 refine rp 17 rfl (op_nilck_ptr rfl (oT rfl)) ?_
 refine rp 18 rfl (op_fld_ptr (by decide) rfl (oT rfl)) ?_
 refine rl 19 rfl (op_load1_refs rfl (oT rfl) tH rfl) ?_
 refine rm 20 rfl rfl rfl ?_
 refine rp 21 rfl (op_idx_sl0 _ rfl (oT rfl) (oT rfl) tD) ?_
 refine rl 22 rfl (op_load1_flat rfl (oT rfl) tH rfl) ?_
 refine rm 23 rfl rfl rfl ?_
 refine rp 24 rfl (op_nilck_ptr rfl (oT rfl)) ?_
 refine rp 25 rfl (op_fld_ptr (by decide) rfl (oT rfl)) ?_
 refine rl 26 rfl (op_load1_refs rfl (oT rfl) tH rfl) ?_
 refine rm 27 rfl rfl rfl ?_
 refine rp 28 rfl (op_idx_sl0 _ rfl (oT rfl) (oT rfl) tD) ?_
 refine rl 29 rfl (op_load1_flat rfl (oT rfl) tH rfl) ?_
 refine rp 30 rfl (op_idx_sl0 _ rfl (oT rfl) (oT rfl) tD) ?_
 refine Run.effW (dd := none) rfl rfl (op_store_flat rfl (oT rfl) (oT rfl) tC rfl rfl ri tS) (by first | exact ext_call | exact tE) ?_
 refine rp 31 rfl (op_idx_sl0 _ rfl (oT rfl) (oT rfl) tD) ?_
 refine Run.effW (dd := none) rfl rfl (op_store_flat rfl (oT rfl) (oT rfl) tC rfl rfl s1 tS) (by first | exact ext_call | exact tE) ?_
 refine Run.nil (FinD.mk (by kernel_rfl) ?_)
 refine nK2 ?_
 refine nK2 ?_
 refine s_draw mixed ?_
 refine rm 32 rfl rfl rfl ?_
 refine rp 33 rfl (op_nilck_ptr rfl (oT rfl)) ?_
 refine rp 34 rfl (op_fld_ptr (by decide) rfl (oT rfl)) ?_
 refine rl 35 rfl (op_load1_refs rfl (oT rfl) tH rfl) ?_
 refine rm 36 rfl rfl rfl ?_
 refine rp 37 rfl (op_nilck_ptr rfl (oT rfl)) ?_
 refine rp 38 rfl (op_fld_ptr (by decide) rfl (oT rfl)) ?_
 refine rl 39 rfl (op_load1_refs rfl (oT rfl) tH rfl) ?_
 refine rm 40 rfl rfl rfl ?_
 refine rp 41 rfl (op_idx_sl0 i rfl (oT rfl) (oT rfl) tD) ?_
 refine rl 42 rfl (op_load1_flat rfl (oT rfl) (by intro _; exact ⟨rfl, s2⟩) rfl) ?_
 refine rm 43 rfl rfl rfl ?_
 refine rp 44 rfl (op_nilck_ptr rfl (oT rfl)) ?_
 refine rp 45 rfl (op_fld_ptr (by decide) rfl (oT rfl)) ?_
 refine rl 46 rfl (op_load1_refs rfl (oT rfl) tH rfl) ?_
 refine rm 47 rfl rfl rfl ?_
 refine rp 48 rfl (op_nilck_ptr rfl (oT rfl)) ?_
 refine rp 49 rfl (op_fld_ptr (by decide) rfl (oT rfl)) ?_
 refine rl 50 rfl (op_load1_refs rfl (oT rfl) tH rfl) ?_
 refine rm 51 rfl rfl rfl ?_
 refine rp 52 rfl (op_idx_sl0 j rfl (oT rfl) (oT rfl) tD) ?_
 refine rl 53 rfl (op_load1_flat rfl (oT rfl) (by intro _; exact ⟨rfl, s3⟩) rfl) ?_
 refine rm 54 rfl rfl rfl ?_
 refine rm 55 rfl rfl rfl ?_
 refine rp 56 rfl (op_idx_sl0 _ rfl (oT rfl) (oT rfl) tD) ?_
 refine Run.effW (dd := none) rfl rfl (op_store_flat rfl (oT rfl) (oT rfl) tC rfl rfl rw_ tS) (by first | exact ext_call | exact tE) ?_
 refine rp 57 rfl (op_idx_sl0 _ rfl (oT rfl) (oT rfl) tD) ?_
 refine Run.effW (dd := none) rfl rfl (op_store_flat rfl (oT rfl) (oT rfl) tC rfl rfl s4 (Sp.whole _ _ (by rw [l5]; rfl))) (by first | exact ext_call | exact tE) ?_
 refine Run.nil (FinD.mk (by kernel_rfl) ?_)
 refine Next.weak [0, 1, 2, 3] [] (by rfl) (keepsN hC _ rfl) (G' := []) (H' := HH ⟨(h.it.set i w).set j v, (h.pl.set w i).set v j, h.ky⟩) trivial (by exact ⟨ent_same rfl rfl (by simp only [List.length_set]; rfl) tL, ⟨ent_same rfl rfl (flEq rfl (by first | (rw [List.map_set, List.map_set]; done) | (rw [List.map_set, List.map_set]; rfl))) trivial, ⟨ent_same rfl rfl (flEq rfl (by first | (rw [List.map_set, List.map_set]; done) | (rw [List.map_set, List.map_set]; rfl))) trivial, ⟨ent_same rfl rfl rfl tL, trivial⟩⟩⟩⟩) (fun _ h => by simp at h) ?_
 exact n_out0 rfl
end Go.Proofs.Ytnkhlbljnmodbaa
namespace Go.Proofs.Ytnkhlbljnmodbaa
open Go Go.RT Go.Proofs Go.Pl
set_option linter.all false
set_option maxRecDepth 20000
theorem less_i (h : Hq) (o : h.Ok) (a b : Int) (i j : Nat) (ha : a = i) (hb : b = j) (hi : i < h.it.length) (hj : j < h.it.length) : Meets Try.prog 67 [.ptr 0 3 0 0, IV .i64 a, IV .i64 b] 4 (HH h) (.fz (.lit (.bool (lessH h i j)))) (HH h) 4 := by
 subst ha; subst hb; exact less_c h o i j hi hj
theorem swap_i (h : Hq) (o : h.Ok) (a b : Int) (i j : Nat) (ha : a = i) (hb : b = j) (hi : i < h.it.length) (hj : j < h.it.length) : Meets Try.prog 68 [.ptr 0 3 0 0, IV .i64 a, IV .i64 b] 4 (HH h) (.fz (.tup [])) (HH (swapH h i j)) 4 := by
 subst ha; subst hb; exact swap_c h o i j hi hj
abbrev GS (i n : Nat) : Env := [(0, IV .i64 i), (1, IV .i64 n), (2, .clo 67 [.ptr 0 3 0 0] []), (3, .clo 68 [.ptr 0 3 0 0] [])]
theorem settle_c (h : Hq) (o : h.Ok) (i n : Nat) (hi : i < h.it.length) (hn : n = h.it.length) (hm : n ≤ 2000000) : Meets Try.prog 66 [IV .i64 i, IV .i64 n, .clo 67 [.ptr 0 3 0 0] [], .clo 68 [.ptr 0 3 0 0] []] 4 (HH h) (.fz (.tup [])) (HH (settleH h i n)) 4 := by
 refine Meets.intro Try.func66 rfl (Nat.le_of_ble_eq_true rfl) fun C hC => ?_
 simp only [List.map, argEnv, Nat.reduceAdd]
 refine nK2 ?_
 refine n_loop (ι := Hq × Nat) (fun s => (GS s.2 n, HH s.1, 4)) (fun s => Like h s.1 ∧ s.2 < h.it.length ∧ upH s.1 s.2 = upH h i) (fun s => s.2) (h, i) ⟨⟨o, rfl, rfl, rfl⟩, hi, rfl⟩ ?_ ?_
 ·refine Next.weak [0, 1, 2, 3] [] (by rfl) (keepsN hC _ rfl) (by repeat (first | exact trivial | refine ⟨⟨_, rfl, .inl ⟨rfl, rfl⟩⟩, ?_⟩ | refine ⟨⟨_, rfl, .inl ⟨slEq rfl tN, rfl⟩⟩, ?_⟩ | refine ⟨⟨_, rfl, .inl ⟨ivEq tX, rfl⟩⟩, ?_⟩)) (by exact ⟨ent_same rfl rfl rfl tL, ⟨ent_same rfl rfl rfl tL, ⟨ent_same rfl rfl rfl tL, ⟨ent_same rfl rfl rfl tL, trivial⟩⟩⟩⟩) (fun _ h => by simp at h) rel_intro
 ·intro ⟨h', j⟩ ⟨hl, hj, he⟩ K hK
  dsimp only at hl hj he ⊢
  have hl' := hl
  obtain ⟨o', l1, l2, l3⟩ := hl'
  refine nK2 ?_
  refine s_reg rfl ?_
  refine rm 9 rfl rfl rfl ?_
  refine rp 10 rfl (op_gtr rfl (oT rfl) oC) ?_
  refine rm 11 rfl rfl rfl ?_
  refine gm 12 rfl rfl tG rfl rfl ?_
  refine gm 13 rfl rfl tG rfl rfl ?_
  refine gm 14 rfl rfl tG rfl rfl ?_
  refine rg 15 rfl rfl tG (op_sub rfl (oO rfl tO) oC tI) ?_
  refine rg 16 rfl rfl tG (op_quo rfl (oO rfl tO) oC tM) ?_
  refine rk 17 rfl rfl tG (op_call_read (n := 4) [0, 1, 2, 3] (fun hg => less_i h' o' _ _ j ((j - 1) / 2) rfl (by simp at hg; omega) (by omega) (by omega)) rfl (oO rfl tO) (oS (oO rfl tO) (oS (oO rfl tO) Opds.nil)) rfl rfl (Lent.of rfl rfl (by exact ⟨⟨rfl, rfl, rfl, tL⟩, ⟨rfl, rfl, rfl, trivial⟩, ⟨rfl, rfl, rfl, trivial⟩, ⟨rfl, rfl, rfl, trivial⟩, trivial⟩) rfl) rfl) ?_
  refine rp 18 rfl (op_pick_and rfl (oT rfl) (oO rfl tO)) ?_
  refine rn ?_
  refine nK2 ?_
  refine n_cond _ rfl (fun hb => ?_) (fun hb => ?_)
  ·have hb2 : 0 < j ∧ lessH h' j ((j - 1) / 2) = true := by simpa using hb
   have hst := up_step hb2.1 hb2.2
   refine nK2 ?_
   refine s_reg rfl ?_
   refine rm 19 rfl rfl rfl ?_
   refine rm 20 rfl rfl rfl ?_
   refine rm 21 rfl rfl rfl ?_
   refine rp 22 rfl (op_sub rfl (oT rfl) oC tI) ?_
   refine rp 23 rfl (op_quo rfl (oT rfl) oC tM) ?_
   refine Run.eff (dd := some 24) rfl rfl (op_call (n := 4) (n' := 4) [0, 1, 2, 3] (fun _ => swap_i h' o' _ _ j ((j - 1) / 2) rfl (by omega) (by omega) (by omega)) rfl (oT rfl) (oS (oT rfl) (oS (oT rfl) Opds.nil)) rfl rfl (Lent.of rfl rfl (by exact ⟨⟨rfl, rfl, rfl, tL⟩, ⟨rfl, rfl, rfl, trivial⟩, ⟨rfl, rfl, rfl, trivial⟩, ⟨rfl, rfl, rfl, trivial⟩, trivial⟩) rfl) rfl rfl rfl rfl rfl) ?_
   refine rn ?_
   refine nK2 ?_
   refine s_reg rfl ?_
   refine rm 25 rfl rfl rfl ?_
   refine rp 26 rfl (op_sub rfl (oT rfl) oC tI) ?_
   refine rp 27 rfl (op_quo rfl (oT rfl) oC tM) ?_
   refine ra 0 rfl rfl rfl ?_
   refine rn ?_
   refine nK2 ?_
   refine Next.weak [0, 1, 2, 3] [] (by rfl) (keepsN hC _ rfl) (by exact ⟨⟨_, rfl, .inl ⟨ivEq (by omega), rfl⟩⟩, ⟨_, rfl, .inl ⟨rfl, rfl⟩⟩, ⟨_, rfl, .inl ⟨rfl, rfl⟩⟩, ⟨_, rfl, .inl ⟨rfl, rfl⟩⟩, trivial⟩) (by exact ⟨ent_same rfl rfl rfl tL, ⟨ent_same rfl rfl rfl tL, ⟨ent_same rfl rfl rfl tL, ⟨ent_same rfl rfl rfl tL, trivial⟩⟩⟩⟩) (fun _ h => by simp at h) (hK (swapH h' j ((j - 1) / 2), (j - 1) / 2) ⟨hl.swap (by omega) (by omega), by dsimp only; omega, by dsimp only; rw [← hst]; exact he⟩ (by dsimp only; omega))
  ·have hb2 : ¬ (0 < j ∧ lessH h' j ((j - 1) / 2) = true) := by simpa using hb
   have hst := up_stop hb2
   rw [hst] at he
   have hse : settleH h i n = downH h' j n := by unfold settleH; rw [← he]
   rw [hse]
   refine nK2 ?_
   refine n_loop (ι := Hq × Nat) (fun s => (GS s.2 n, HH s.1, 4)) (fun s => Like h s.1 ∧ s.2 < h.it.length ∧ downH s.1 s.2 n = downH h' j n) (fun s => n - s.2) (h', j) ⟨hl, hj, rfl⟩ ?_ ?_
   ·refine Next.weak [0, 1, 2, 3] [] (by rfl) (keepsN hC _ rfl) (by repeat (first | exact trivial | refine ⟨⟨_, rfl, .inl ⟨rfl, rfl⟩⟩, ?_⟩ | refine ⟨⟨_, rfl, .inl ⟨slEq rfl tN, rfl⟩⟩, ?_⟩ | refine ⟨⟨_, rfl, .inl ⟨ivEq tX, rfl⟩⟩, ?_⟩)) (by exact ⟨ent_same rfl rfl rfl tL, ⟨ent_same rfl rfl rfl tL, ⟨ent_same rfl rfl rfl tL, ⟨ent_same rfl rfl rfl tL, trivial⟩⟩⟩⟩) (fun _ h => by simp at h) rel_intro
   ·intro ⟨h2, i2⟩ ⟨hl, hj, he⟩ K2 hK
    dsimp only at hl hj he ⊢
    have hl' := hl
    obtain ⟨o2, l1, l2, l3⟩ := hl'
    refine nK2 ?_
    refine s_reg rfl ?_
    refine rm 28 rfl rfl rfl ?_
    refine rp 29 rfl (op_mul rfl oC (oT rfl) tI) ?_
    refine rp 30 rfl (op_add rfl (oT rfl) oC tI) ?_
    refine ra 8 rfl rfl rfl ?_
    refine rn ?_
    refine nK2 ?_
    refine s_reg rfl ?_
    refine rm 31 rfl rfl rfl ?_
    refine rp 32 rfl (op_add rfl (oT rfl) oC tI) ?_
    refine rm 33 rfl rfl rfl ?_
    refine rp 34 rfl (op_lss rfl (oT rfl) (oT rfl)) ?_
    refine rm 35 rfl rfl rfl ?_
    refine gm 36 rfl rfl tG rfl rfl ?_
    refine gm 37 rfl rfl tG rfl rfl ?_
    refine rg 38 rfl rfl tG (op_add rfl (oO rfl tO) oC tI) ?_
    refine gm 39 rfl rfl tG rfl rfl ?_
    refine rk 40 rfl rfl tG (op_call_read (n := 4) [0, 1, 2, 3] (fun hg => less_i h2 o2 _ _ (2 * i2 + 1 + 1) (2 * i2 + 1) (by omega) (by omega) (by simp at hg; omega) (by simp at hg; omega)) rfl (oO rfl tO) (oS (oO rfl tO) (oS (oO rfl tO) Opds.nil)) rfl rfl (Lent.of rfl rfl (by exact ⟨⟨rfl, rfl, rfl, tL⟩, ⟨rfl, rfl, rfl, trivial⟩, ⟨rfl, rfl, rfl, trivial⟩, ⟨rfl, rfl, rfl, trivial⟩, trivial⟩) rfl) rfl) ?_
    refine rp 41 rfl (op_pick_and rfl (oT rfl) (oO rfl tO)) ?_
    refine rn ?_
    refine nK2 ?_
    refine n_cond _ rfl (fun hb => ?_) (fun hb => ?_)
    ·have hb2 : 2 * i2 + 1 + 1 < n ∧ lessH h2 (2 * i2 + 1 + 1) (2 * i2 + 1) = true := by simp at hb; exact ⟨by omega, hb.2⟩
     have hk : kidH h2 i2 n = 2 * i2 + 1 + 1 := by unfold kidH; rw [if_pos hb2]
     refine nK2 ?_
     refine s_reg rfl ?_
     refine rm 42 rfl rfl rfl ?_
     refine rp 43 rfl (op_add rfl (oT rfl) oC tI) ?_
     refine ra 8 rfl rfl rfl ?_
     refine rn ?_
     refine nK2 ?_
     refine s_reg rfl ?_
     refine rm 44 rfl rfl rfl ?_
     refine rm 45 rfl rfl rfl ?_
     refine rp 46 rfl (op_geq rfl (oT rfl) (oT rfl)) ?_
     refine rm 47 rfl rfl rfl ?_
     refine gm 48 rfl rfl tG rfl rfl ?_
     refine gm 49 rfl rfl tG rfl rfl ?_
     refine gm 50 rfl rfl tG rfl rfl ?_
     refine rk 51 rfl rfl tG (op_call_read (n := 4) [0, 1, 2, 3] (fun hg => less_i h2 o2 _ _ (2 * i2 + 1 + 1) i2 (by omega) rfl (by simp at hg; omega) (by omega)) rfl (oO rfl tO) (oS (oO rfl tO) (oS (oO rfl tO) Opds.nil)) rfl rfl (Lent.of rfl rfl (by exact ⟨⟨rfl, rfl, rfl, tL⟩, ⟨rfl, rfl, rfl, trivial⟩, ⟨rfl, rfl, rfl, trivial⟩, ⟨rfl, rfl, rfl, trivial⟩, trivial⟩) rfl) rfl) ?_
     refine rg 52 rfl rfl tG (op_not rfl (oO rfl tO)) ?_
     refine rp 53 rfl (op_pick_or rfl (oT rfl) (oO rfl tO)) ?_
     refine rn ?_
     refine nK2 ?_
     refine n_cond _ rfl (fun hb => ?_) (fun hb => ?_)
     ·have hst := down_stop (h := h2) (i := i2) (n := n) (by rw [hk]; intro hh; simp [hh.2] at hb; omega)
      rw [hst] at he
      rw [← he]
      refine nK2 ?_
      refine Next.weak [0, 1, 2, 3] [] (by rfl) (keepsN hC _ rfl) (G' := []) (H' := HH h2) trivial (by exact ⟨ent_same rfl rfl rfl tL, ⟨ent_same rfl rfl rfl tL, ⟨ent_same rfl rfl rfl tL, ⟨ent_same rfl rfl rfl tL, trivial⟩⟩⟩⟩) (fun _ h => by simp at h) ?_
      exact n_out0 rfl
     ·have hb3 : 2 * i2 + 1 + 1 < n ∧ lessH h2 (2 * i2 + 1 + 1) i2 = true := by simp at hb; exact ⟨by omega, hb.2⟩
      have hst := down_step (h := h2) (i := i2) (n := n) (by rw [hk]; exact hb3.1) (by rw [hk]; exact hb3.2)
      rw [hk] at hst
      refine nK2 ?_
      refine s_reg rfl ?_
      refine rm 54 rfl rfl rfl ?_
      refine rm 55 rfl rfl rfl ?_
      refine rm 56 rfl rfl rfl ?_
      refine Run.eff (dd := some 57) rfl rfl (op_call (n := 4) (n' := 4) [0, 1, 2, 3] (fun _ => swap_i h2 o2 _ _ i2 (2 * i2 + 1 + 1) rfl (by omega) (by omega) (by omega)) rfl (oT rfl) (oS (oT rfl) (oS (oT rfl) Opds.nil)) rfl rfl (Lent.of rfl rfl (by exact ⟨⟨rfl, rfl, rfl, tL⟩, ⟨rfl, rfl, rfl, trivial⟩, ⟨rfl, rfl, rfl, trivial⟩, ⟨rfl, rfl, rfl, trivial⟩, trivial⟩) rfl) rfl rfl rfl rfl rfl) ?_
      refine rn ?_
      refine nK2 ?_
      refine s_reg rfl ?_
      refine rm 58 rfl rfl rfl ?_
      refine ra 0 rfl rfl rfl ?_
      refine rn ?_
      refine nK2 ?_
      refine Next.weak [0, 1, 2, 3] [] (by rfl) (keepsN hC _ rfl) (by exact ⟨⟨_, rfl, .inl ⟨ivEq (by omega), rfl⟩⟩, ⟨_, rfl, .inl ⟨rfl, rfl⟩⟩, ⟨_, rfl, .inl ⟨rfl, rfl⟩⟩, ⟨_, rfl, .inl ⟨rfl, rfl⟩⟩, trivial⟩) (by exact ⟨ent_same rfl rfl rfl tL, ⟨ent_same rfl rfl rfl tL, ⟨ent_same rfl rfl rfl tL, ⟨ent_same rfl rfl rfl tL, trivial⟩⟩⟩⟩) (fun _ h => by simp at h) (hK (swapH h2 i2 (2 * i2 + 1 + 1), 2 * i2 + 1 + 1) ⟨hl.swap (by omega) (by omega), by dsimp only; omega, by dsimp only; rw [← hst]; exact he⟩ (by dsimp only; omega))
    ·have hb2 : ¬ (2 * i2 + 1 + 1 < n ∧ lessH h2 (2 * i2 + 1 + 1) (2 * i2 + 1) = true) := by
      simp at hb; intro hh; have := hb (by omega); rw [hh.2] at this; cases this
     have hk : kidH h2 i2 n = 2 * i2 + 1 := by unfold kidH; rw [if_neg hb2]
     refine nK2 ?_
     refine s_reg rfl ?_
     refine rm 44 rfl rfl rfl ?_
     refine rm 45 rfl rfl rfl ?_
     refine rp 46 rfl (op_geq rfl (oT rfl) (oT rfl)) ?_
     refine rm 47 rfl rfl rfl ?_
     refine gm 48 rfl rfl tG rfl rfl ?_
     refine gm 49 rfl rfl tG rfl rfl ?_
     refine gm 50 rfl rfl tG rfl rfl ?_
     refine rk 51 rfl rfl tG (op_call_read (n := 4) [0, 1, 2, 3] (fun hg => less_i h2 o2 _ _ (2 * i2 + 1) i2 (by omega) rfl (by simp at hg; omega) (by omega)) rfl (oO rfl tO) (oS (oO rfl tO) (oS (oO rfl tO) Opds.nil)) rfl rfl (Lent.of rfl rfl (by exact ⟨⟨rfl, rfl, rfl, tL⟩, ⟨rfl, rfl, rfl, trivial⟩, ⟨rfl, rfl, rfl, trivial⟩, ⟨rfl, rfl, rfl, trivial⟩, trivial⟩) rfl) rfl) ?_
     refine rg 52 rfl rfl tG (op_not rfl (oO rfl tO)) ?_
     refine rp 53 rfl (op_pick_or rfl (oT rfl) (oO rfl tO)) ?_
     refine rn ?_
     refine nK2 ?_
     refine n_cond _ rfl (fun hb => ?_) (fun hb => ?_)
     ·have hst := down_stop (h := h2) (i := i2) (n := n) (by rw [hk]; intro hh; simp [hh.2] at hb; omega)
      rw [hst] at he
      rw [← he]
      refine nK2 ?_
      refine Next.weak [0, 1, 2, 3] [] (by rfl) (keepsN hC _ rfl) (G' := []) (H' := HH h2) trivial (by exact ⟨ent_same rfl rfl rfl tL, ⟨ent_same rfl rfl rfl tL, ⟨ent_same rfl rfl rfl tL, ⟨ent_same rfl rfl rfl tL, trivial⟩⟩⟩⟩) (fun _ h => by simp at h) ?_
      exact n_out0 rfl
     ·have hb3 : 2 * i2 + 1 < n ∧ lessH h2 (2 * i2 + 1) i2 = true := by simp at hb; exact ⟨by omega, hb.2⟩
      have hst := down_step (h := h2) (i := i2) (n := n) (by rw [hk]; exact hb3.1) (by rw [hk]; exact hb3.2)
      rw [hk] at hst
      refine nK2 ?_
      refine s_reg rfl ?_
      refine rm 54 rfl rfl rfl ?_
      refine rm 55 rfl rfl rfl ?_
      refine rm 56 rfl rfl rfl ?_
      refine Run.eff (dd := some 57) rfl rfl (op_call (n := 4) (n' := 4) [0, 1, 2, 3] (fun _ => swap_i h2 o2 _ _ i2 (2 * i2 + 1) rfl (by omega) (by omega) (by omega)) rfl (oT rfl) (oS (oT rfl) (oS (oT rfl) Opds.nil)) rfl rfl (Lent.of rfl rfl (by exact ⟨⟨rfl, rfl, rfl, tL⟩, ⟨rfl, rfl, rfl, trivial⟩, ⟨rfl, rfl, rfl, trivial⟩, ⟨rfl, rfl, rfl, trivial⟩, trivial⟩) rfl) rfl rfl rfl rfl rfl) ?_
      refine rn ?_
      refine nK2 ?_
      refine s_reg rfl ?_
      refine rm 58 rfl rfl rfl ?_
      refine ra 0 rfl rfl rfl ?_
      refine rn ?_
      refine nK2 ?_
      refine Next.weak [0, 1, 2, 3] [] (by rfl) (keepsN hC _ rfl) (by exact ⟨⟨_, rfl, .inl ⟨ivEq (by omega), rfl⟩⟩, ⟨_, rfl, .inl ⟨rfl, rfl⟩⟩, ⟨_, rfl, .inl ⟨rfl, rfl⟩⟩, ⟨_, rfl, .inl ⟨rfl, rfl⟩⟩, trivial⟩) (by exact ⟨ent_same rfl rfl rfl tL, ⟨ent_same rfl rfl rfl tL, ⟨ent_same rfl rfl rfl tL, ⟨ent_same rfl rfl rfl tL, trivial⟩⟩⟩⟩) (fun _ h => by simp at h) (hK (swapH h2 i2 (2 * i2 + 1), 2 * i2 + 1) ⟨hl.swap (by omega) (by omega), by dsimp only; omega, by dsimp only; rw [← hst]; exact he⟩ (by dsimp only; omega))
end Go.Proofs.Ytnkhlbljnmodbaa
namespace Go.Pl
open Go Go.RT
set_option linter.all false
def Hq.place (h : Hq) (v : Nat) : Int := h.pl.getD v 0
/-- items and places fit -/
structure HI (h : Hq) : Prop where
  ok : h.Ok
  at_ : ∀ v, v < h.pl.length → 0 ≤ h.place v → h.place v < h.it.length ∧ h.item (h.place v).toNat = v
  inv : ∀ i, i < h.it.length → h.place (h.item i) = i
def insH (h : Hq) (v : Nat) : Hq := if h.place v < 0 then ⟨h.it ++ [v], h.pl.set v h.it.length, h.ky⟩ else h
def putH (h : Hq) (v : Nat) (k : Int) : Hq := ⟨(insH h v).it, (insH h v).pl, (insH h v).ky.set v k⟩
def setH (h : Hq) (v : Nat) (k : Int) : Hq := settleH (putH h v k) ((putH h v k).place v).toNat (putH h v k).it.length
def cutH (h : Hq) (v : Nat) : Hq :=
  ⟨(swapH h (h.place v).toNat (h.it.length - 1)).it.take (h.it.length - 1), (swapH h (h.place v).toNat (h.it.length - 1)).pl.set v (-1), h.ky⟩
def dropH (h : Hq) (v : Nat) : Hq := if (h.place v).toNat < h.it.length - 1 then settleH (cutH h v) (h.place v).toNat (h.it.length - 1) else cutH h v
theorem getD_set {α : Type} (l : List α) (i j : Nat) (x d : α) (hi : i < l.length) : (l.set i x).getD j d = if i = j then x else l.getD j d := by
  rw [List.getD_eq_getElem?_getD, List.getElem?_set]
  by_cases h : i = j
  · subst h; simp [hi]
  · simp [h, List.getD_eq_getElem?_getD]
theorem getD_app {α : Type} (l : List α) (x d : α) (j : Nat) : (l ++ [x]).getD j d = if j = l.length then x else l.getD j d := by
  rw [List.getD_eq_getElem?_getD, List.getD_eq_getElem?_getD, List.getElem?_append]
  by_cases h : j < l.length
  · rw [if_pos h, if_neg (by omega)]
  · rw [if_neg h]
    by_cases h2 : j = l.length
    · subst h2; simp
    · rw [if_neg h2, List.getElem?_eq_none (by simp; omega), List.getElem?_eq_none (by omega)]
theorem HI.lt {h : Hq} (o : HI h) {v : Nat} (hv : v < h.pl.length) (hp : 0 ≤ h.place v) : (h.place v).toNat < h.it.length := by have := (o.at_ v hv hp).1; omega
theorem HI.ins {h : Hq} (o : HI h) {v : Nat} (hv : v < h.pl.length) : HI (insH h v) ∧ (insH h v).pl.length = h.pl.length ∧ (insH h v).ky = h.ky ∧ 0 ≤ (insH h v).place v ∧ (insH h v).it.length ≤ h.it.length + 1 := by
  unfold insH
  by_cases hp : h.place v < 0
  · rw [if_pos hp]
    have e1 : ∀ w, (⟨h.it ++ [v], h.pl.set v h.it.length, h.ky⟩ : Hq).place w = if v = w then (h.it.length : Int) else h.place w := fun w => getD_set _ _ _ _ _ hv
    have e2 : ∀ i, (⟨h.it ++ [v], h.pl.set v h.it.length, h.ky⟩ : Hq).item i = if i = h.it.length then v else h.item i := fun i => getD_app _ _ _ _
    refine ⟨⟨⟨by simpa using o.ok.len, fun w hw => ?_⟩, fun w hw hw0 => ?_, fun i hi => ?_⟩, by simp, rfl, by rw [e1, if_pos rfl]; omega, by simp⟩
    · rcases List.mem_append.1 hw with h1 | h1
      · simpa using o.ok.lt w h1
      · have : w = v := by simpa using h1
        subst this; simpa using hv
    · simp only [List.length_set] at hw
      rw [e1] at hw0 ⊢
      by_cases hvw : v = w
      · subst hvw; simp only [if_pos, List.length_append, List.length_singleton]; rw [e2]; exact ⟨by omega, by simp⟩
      · rw [if_neg hvw] at hw0 ⊢
        obtain ⟨a, b⟩ := o.at_ w hw hw0
        refine ⟨by simp; omega, ?_⟩
        rw [e2, if_neg (by omega)]; exact b
    · simp only [List.length_append, List.length_singleton] at hi
      rw [e2, e1]
      by_cases hin : i = h.it.length
      · rw [if_pos hin, if_pos rfl, hin]
      · rw [if_neg hin]
        have hi' : i < h.it.length := by omega
        have := o.inv i hi'
        by_cases hvi : v = h.item i
        · exfalso; rw [← hvi] at this; omega
        · rw [if_neg hvi]; exact this
  · rw [if_neg hp]; exact ⟨o, rfl, rfl, by omega, by omega⟩
theorem HI.put {h : Hq} (o : HI h) {v : Nat} (hv : v < h.pl.length) (k : Int) : HI (putH h v k) ∧ (putH h v k).pl.length = h.pl.length ∧ 0 ≤ (putH h v k).place v ∧ (putH h v k).it.length ≤ h.it.length + 1 := by
  obtain ⟨a, b, c, d, e⟩ := o.ins hv
  exact ⟨⟨⟨by simpa [putH] using a.ok.len, a.ok.lt⟩, a.at_, a.inv⟩, b, d, e⟩
theorem place_swap (h : Hq) {i j : Nat} (o : h.Ok) (hi : i < h.it.length) (hj : j < h.it.length) (w : Nat) : (swapH h i j).place w = if h.item i = w then (j : Int) else if h.item j = w then (i : Int) else h.place w := by
  have h1 := o.item hi
  have h2 := o.item hj
  unfold Hq.place swapH
  rw [getD_set _ _ _ _ _ (by simpa using h1)]
  by_cases e : h.item i = w
  · rw [if_pos e, if_pos e]
  · rw [if_neg e, if_neg e, getD_set _ _ _ _ _ h2]
theorem item_swap (h : Hq) {i j : Nat} (hi : i < h.it.length) (hj : j < h.it.length) (k : Nat) : (swapH h i j).item k = if j = k then h.item i else if i = k then h.item j else h.item k := by
  unfold Hq.item swapH
  rw [getD_set _ _ _ _ _ (by simpa using hj)]
  by_cases e : j = k
  · rw [if_pos e, if_pos e]; rfl
  · rw [if_neg e, if_neg e, getD_set _ _ _ _ _ hi]; rfl
theorem HI.swap {h : Hq} (o : HI h) {i j : Nat} (hi : i < h.it.length) (hj : j < h.it.length) : HI (swapH h i j) := by
  obtain ⟨l1, l2, l3⟩ := swapH_len h i j
  have ii := o.inv i hi
  have ij := o.inv j hj
  refine ⟨o.ok.swap hi hj, fun w hw hw0 => ?_, fun k hk => ?_⟩
  · rw [place_swap h o.ok hi hj] at hw0 ⊢
    rw [l1]
    by_cases e1 : h.item i = w
    · rw [if_pos e1]
      refine ⟨by omega, ?_⟩
      rw [item_swap h hi hj, if_pos (by simp)]; exact e1
    · rw [if_neg e1] at hw0 ⊢
      by_cases e2 : h.item j = w
      · rw [if_pos e2]
        refine ⟨by omega, ?_⟩
        rw [item_swap h hi hj, Int.toNat_natCast]
        by_cases e3 : j = i
        · subst e3; rw [if_pos rfl]; exact e2
        · rw [if_neg e3, if_pos rfl]; exact e2
      · rw [if_neg e2] at hw0 ⊢
        obtain ⟨a, b⟩ := o.at_ w (by rw [← l2]; exact hw) hw0
        refine ⟨a, ?_⟩
        rw [item_swap h hi hj, if_neg (fun e => e2 (by rw [e]; exact b)), if_neg (fun e => e1 (by rw [e]; exact b))]; exact b
  · rw [l1] at hk
    rw [item_swap h hi hj]
    by_cases e1 : j = k
    · rw [if_pos e1, place_swap h o.ok hi hj, if_pos rfl, e1]
    · rw [if_neg e1]
      by_cases e2 : i = k
      · rw [if_pos e2, place_swap h o.ok hi hj]
        by_cases e3 : h.item i = h.item j
        · rw [if_pos e3]; rw [e3] at ii; omega
        · rw [if_neg e3, if_pos rfl, e2]
      · rw [if_neg e2, place_swap h o.ok hi hj]
        have ik := o.inv k hk
        rw [if_neg (fun e => by rw [e] at ii; omega), if_neg (fun e => by rw [e] at ij; omega)]; exact ik
theorem HI.cut {h : Hq} (o : HI h) {v : Nat} (hv : v < h.pl.length) (hp : 0 ≤ h.place v) : HI (cutH h v) ∧ (cutH h v).it.length = h.it.length - 1 ∧ (cutH h v).pl.length = h.pl.length ∧ (cutH h v).ky = h.ky := by
  have hi := o.lt hv hp
  have hj : h.it.length - 1 < h.it.length := by omega
  obtain ⟨_, hiv⟩ := o.at_ v hv hp
  have os := o.swap hi hj
  obtain ⟨l1, l2, l3⟩ := swapH_len h (h.place v).toNat (h.it.length - 1)
  have hlast : (swapH h (h.place v).toNat (h.it.length - 1)).item (h.it.length - 1) = v := by rw [item_swap h hi hj, if_pos rfl]; exact hiv
  have hpl : (swapH h (h.place v).toNat (h.it.length - 1)).place v = (h.it.length - 1 : Nat) := by rw [← hlast]; rw [hlast]; have := os.inv (h.it.length - 1) (by rw [l1]; exact hj); rw [hlast] at this; exact this
  have e1 : ∀ w, (cutH h v).place w = if v = w then (-1 : Int) else (swapH h (h.place v).toNat (h.it.length - 1)).place w := fun w => getD_set _ _ _ _ _ (by rw [l2]; exact hv)
  have e2 : ∀ i, i < h.it.length - 1 → (cutH h v).item i = (swapH h (h.place v).toNat (h.it.length - 1)).item i := fun i hi => by
    unfold cutH Hq.item; simp only [List.getD_eq_getElem?_getD]; rw [List.getElem?_take, if_pos hi]
  have hl : (cutH h v).it.length = h.it.length - 1 := by unfold cutH; simp only [List.length_take, l1]; omega
  refine ⟨⟨⟨?_, fun w hw => ?_⟩, fun w hw hw0 => ?_, fun i hi2 => ?_⟩, hl, by unfold cutH; simp [l2], rfl⟩
  · unfold cutH; simp only [List.length_set, l2]; exact o.ok.len
  · have := os.ok.lt w (List.mem_of_mem_take hw); unfold cutH; simpa using this
  · have hw' : w < (swapH h (h.place v).toNat (h.it.length - 1)).pl.length := by unfold cutH at hw; simpa using hw
    rw [e1] at hw0 ⊢
    by_cases e : v = w
    · rw [if_pos e] at hw0; omega
    · rw [if_neg e] at hw0 ⊢
      obtain ⟨a, b⟩ := os.at_ w hw' hw0
      rw [l1] at a
      have hne : ((swapH h (h.place v).toNat (h.it.length - 1)).place w).toNat ≠ h.it.length - 1 := fun e3 => e (by rw [e3, hlast] at b; exact b)
      refine ⟨by rw [hl]; omega, ?_⟩
      rw [e2 _ (by omega)]; exact b
  · rw [hl] at hi2
    rw [e2 i hi2, e1]
    have := os.inv i (by rw [l1]; omega)
    rw [if_neg (fun e => by rw [← e, hpl] at this; omega)]; exact this
end Go.Pl
namespace Go.Pl
theorem HI.up {h : Hq} : ∀ {i : Nat}, HI h → i < h.it.length → HI (upH h i).1 ∧ (upH h i).1.it.length = h.it.length ∧ (upH h i).1.pl.length = h.pl.length ∧ (upH h i).1.ky = h.ky ∧ (upH h i).2 < h.it.length := by
  intro i
  induction i using Nat.strongRecOn generalizing h with
  | _ i ih =>
    intro o hi
    by_cases hh : 0 < i ∧ lessH h i ((i - 1) / 2) = true
    · rw [up_step hh.1 hh.2]
      have hj : (i - 1) / 2 < h.it.length := by omega
      obtain ⟨l1, l2, l3⟩ := swapH_len h i ((i - 1) / 2)
      obtain ⟨a, b, c, d, e⟩ := ih ((i - 1) / 2) (by omega) (o.swap hi hj) (by rw [l1]; exact hj)
      exact ⟨a, b.trans l1, c.trans l2, d.trans l3, by omega⟩
    · rw [up_stop hh]; exact ⟨o, rfl, rfl, rfl, hi⟩
theorem HI.down {h : Hq} : ∀ {k i n : Nat}, n - i ≤ k → HI h → i < h.it.length → n = h.it.length → HI (downH h i n) ∧ (downH h i n).it.length = h.it.length ∧ (downH h i n).pl.length = h.pl.length ∧ (downH h i n).ky = h.ky := by
  intro k
  induction k generalizing h with
  | zero => intro i n hk o hi hn; omega
  | succ k ih =>
    intro i n hk o hi hn
    by_cases hh : kidH h i n < n ∧ lessH h (kidH h i n) i = true
    · rw [down_step hh.1 hh.2]
      have hgt := kidH_gt h i n
      obtain ⟨l1, l2, l3⟩ := swapH_len h i (kidH h i n)
      obtain ⟨a, b, c, d⟩ := ih (h := swapH h i (kidH h i n)) (i := kidH h i n) (n := n) (by omega) (o.swap hi (by omega)) (by rw [l1]; omega) (by rw [l1]; exact hn)
      exact ⟨a, b.trans l1, c.trans l2, d.trans l3⟩
    · rw [down_stop hh]; exact ⟨o, rfl, rfl, rfl⟩
theorem HI.settle {h : Hq} {i : Nat} (o : HI h) (hi : i < h.it.length) : HI (settleH h i h.it.length) ∧ (settleH h i h.it.length).it.length = h.it.length ∧ (settleH h i h.it.length).pl.length = h.pl.length ∧ (settleH h i h.it.length).ky = h.ky := by
  obtain ⟨a, b, c, d, e⟩ := o.up hi
  obtain ⟨a2, b2, c2, d2⟩ := a.down (k := h.it.length - (upH h i).2) (i := (upH h i).2) (n := h.it.length) (Nat.le_refl _) (by omega) (by omega)
  exact ⟨a2, b2.trans b, c2.trans c, d2.trans d⟩
theorem HI.set {h : Hq} (o : HI h) {v : Nat} (hv : v < h.pl.length) (k : Int) : HI (setH h v k) ∧ (setH h v k).it.length = (putH h v k).it.length ∧ (setH h v k).pl.length = h.pl.length ∧ (setH h v k).ky = h.ky.set v k := by
  obtain ⟨a, b, c, d⟩ := o.put hv k
  have hi := a.lt (by rw [b]; exact hv) c
  obtain ⟨q1, q2, q3, q4⟩ := a.settle hi
  refine ⟨q1, q2, q3.trans b, q4.trans ?_⟩
  unfold putH insH; split <;> rfl
theorem HI.drop {h : Hq} (o : HI h) {v : Nat} (hv : v < h.pl.length) (hp : 0 ≤ h.place v) : HI (dropH h v) ∧ (dropH h v).it.length = h.it.length - 1 ∧ (dropH h v).pl.length = h.pl.length ∧ (dropH h v).ky = h.ky := by
  obtain ⟨a, b, c, d⟩ := o.cut hv hp
  unfold dropH
  by_cases hh : (h.place v).toNat < h.it.length - 1
  · rw [if_pos hh]
    obtain ⟨q1, q2, q3, q4⟩ := a.settle (i := (h.place v).toNat) (by rw [b]; exact hh)
    rw [b] at q1 q2 q3 q4
    exact ⟨q1, q2, q3.trans c, q4.trans d⟩
  · rw [if_neg hh]; exact ⟨a, b, c, d⟩
end Go.Pl
namespace Go.Proofs.Ytnkhlbljnmodbaa
open Go Go.RT Go.Proofs Go.Pl
set_option linter.all false
set_option maxRecDepth 20000
theorem len_c (h : Hq) : Meets Try.prog 88 [.ptr 0 3 0 0] 4 (HH h) (IV .i64 h.it.length) (HH h) 4 := by
 refine Meets.intro Try.func88 rfl (Nat.le_of_ble_eq_true rfl) fun C hC => ?_
 simp only [List.map, argEnv, Nat.reduceAdd]
 refine nK2 ?_
 refine s_reg rfl ?_
 refine rp 2 rfl (op_assign rfl oC) ?_
 refine rn ?_
 refine nK2 ?_
 refine s_reg rfl ?_
 refine rm 3 rfl rfl rfl ?_
 refine rp 4 rfl (op_eqlnilp rfl (oT rfl)) ?_
 refine rn ?_
 refine nK2 ?_
 refine n_cond _ rfl (fun hb => ?_) (fun hb => ?_)
 ·simp at hb
 ·refine nK2 ?_
  refine s_reg rfl ?_
  refine rm 5 rfl rfl rfl ?_
  refine rp 6 rfl (op_nilck_ptr rfl (oT rfl)) ?_
  refine rp 7 rfl (op_fld_ptr (by decide) rfl (oT rfl)) ?_
  refine rl 8 rfl (op_load1_refs rfl (oT rfl) tH rfl) ?_
  refine rp 9 rfl (op_len_sl rfl (oT rfl)) ?_
  refine ra 2 rfl rfl rfl ?_
  refine rn ?_
  refine nK2 ?_
  refine Next.weak [0, 1, 2, 3] [] (by rfl) (keepsN hC _ rfl) (G' := [(2, .fz _)]) (H' := HH h) (by repeat (first | exact trivial | refine ⟨⟨_, rfl, .inl ⟨rfl, rfl⟩⟩, ?_⟩ | refine ⟨⟨_, rfl, .inl ⟨slEq rfl tN, rfl⟩⟩, ?_⟩ | refine ⟨⟨_, rfl, .inl ⟨ivEq tX, rfl⟩⟩, ?_⟩)) (by exact ⟨ent_same rfl rfl rfl tL, ⟨ent_same rfl rfl rfl tL, ⟨ent_same rfl rfl rfl tL, ⟨ent_same rfl rfl rfl tL, trivial⟩⟩⟩⟩) (fun _ h => by simp at h) ?_
  exact n_out1 rfl (by rfl) rfl rfl
theorem has_c (h : Hq) (v : Nat) (hv : v < h.pl.length) : Meets Try.prog 71 [.ptr 0 3 0 0, IV .i64 v] 4 (HH h) (BV (decide (0 ≤ h.place v))) (HH h) 4 := by
 have rv := row_of encN h.pl v 0 hv
 unfold Hq.place
 generalize h.pl.getD v 0 = p at *
 refine Meets.intro Try.func71 rfl (Nat.le_of_ble_eq_true rfl) fun C hC => ?_
 simp only [List.map, argEnv, Nat.reduceAdd]
 refine nK2 ?_
 refine s_reg rfl ?_
 refine rp 4 rfl (op_assign rfl oC) ?_
 refine rn ?_
 refine nK2 ?_
 refine s_reg rfl ?_
 refine rm 5 rfl rfl rfl ?_
 refine rp 6 rfl (op_neqnilp rfl (oT rfl)) ?_
 refine rm 7 rfl rfl rfl ?_
 refine gm 8 rfl rfl tG rfl rfl ?_
 refine rg 9 rfl rfl tG (op_geq rfl (oO rfl tO) oC) ?_
 refine rp 10 rfl (op_pick_and rfl (oT rfl) (oO rfl tO)) ?_
 refine rm 11 rfl rfl rfl ?_
 refine gm 12 rfl rfl tG rfl rfl ?_
 refine gm 13 rfl rfl tG rfl rfl ?_
 refine rg 14 rfl rfl tG (op_nilck_ptr rfl (oO rfl tO)) ?_
 refine rg 15 rfl rfl tG (op_fld_ptr (by decide) rfl (oO rfl tO)) ?_
 refine rk 16 rfl rfl tG (op_load1_refs rfl (oO rfl tO) tH rfl) ?_
 refine rg 17 rfl rfl tG (op_len_sl rfl (oO rfl tO)) ?_
 refine rg 18 rfl rfl tG (op_lss rfl (oO rfl tO) (oO rfl tO)) ?_
 refine rp 19 rfl (op_pick_and rfl (oT rfl) (oO rfl tO)) ?_
 refine rm 20 rfl rfl rfl ?_
 refine gm 21 rfl rfl tG rfl rfl ?_
 refine rg 22 rfl rfl tG (op_nilck_ptr rfl (oO rfl tO)) ?_
 refine rg 23 rfl rfl tG (op_fld_ptr (by decide) rfl (oO rfl tO)) ?_
 refine rk 24 rfl rfl tG (op_load1_refs rfl (oO rfl tO) tH rfl) ?_
 refine gm 25 rfl rfl tG rfl rfl ?_
 refine rg 26 rfl rfl tG (op_idx_sl0 _ rfl (oO rfl tO) (oO rfl tO) tD) ?_
 refine rk 27 rfl rfl tG (op_load1_flat rfl (oO rfl tO) tH rfl) ?_
 refine rg 28 rfl rfl tG (op_geq rfl (oO rfl tO) oC) ?_
 refine rp 29 rfl (op_pick_and rfl (oT rfl) (oO rfl tO)) ?_
 refine ra 4 rfl rfl rfl ?_
 refine rn ?_
 refine nK2 ?_
 refine Next.weak [0, 1, 2, 3] [] (by rfl) (keepsN hC _ rfl) (G' := [(4, BV (decide (0 ≤ p)))]) (H' := HH h) (by exact ⟨⟨_, rfl, .inl ⟨by simp [hv, renP], rfl⟩⟩, trivial⟩) (by exact ⟨ent_same rfl rfl rfl tL, ⟨ent_same rfl rfl rfl tL, ⟨ent_same rfl rfl rfl tL, ⟨ent_same rfl rfl rfl tL, trivial⟩⟩⟩⟩) (fun _ h => by simp at h) ?_
 exact n_out1 rfl (by rfl) rfl rfl
theorem key_c (h : Hq) (o : h.Ok) (v : Nat) (hv : v < h.pl.length) : Meets Try.prog 55 [.ptr 0 3 0 0, IV .i64 v] 4 (HH h) (.fz (.tup [If .i64 (if 0 ≤ h.place v then h.key v else 0), Bf (decide (0 ≤ h.place v))])) (HH h) 4 := by
 have hh := has_c h v hv
 have hol := o.len
 have rv := row_of encN h.ky v 0 (by omega)
 unfold Hq.key
 generalize h.ky.getD v 0 = k at *
 generalize hp : h.place v = p at *
 refine Meets.intro Try.func55 rfl (Nat.le_of_ble_eq_true rfl) fun C hC => ?_
 simp only [List.map, argEnv, Nat.reduceAdd]
 refine nK2 ?_
 refine s_reg rfl ?_
 refine rp 4 rfl (op_assign rfl oC) ?_
 refine rp 5 rfl (op_assign rfl oC) ?_
 refine rn ?_
 refine nK2 ?_
 refine s_reg rfl ?_
 refine rm 6 rfl rfl rfl ?_
 refine rm 7 rfl rfl rfl ?_
 refine rl 8 rfl (op_call_read (n := 4) [0, 1, 2, 3] (fun _ => hh) rfl (Opd.func _) (oS (oT rfl) (oS (oT rfl) Opds.nil)) rfl rfl (Lent.of rfl rfl (by exact ⟨⟨rfl, rfl, rfl, tL⟩, ⟨rfl, rfl, rfl, trivial⟩, ⟨rfl, rfl, rfl, trivial⟩, ⟨rfl, rfl, rfl, trivial⟩, trivial⟩) rfl) rfl) ?_
 refine rp 9 rfl (op_not rfl (oT rfl)) ?_
 refine rn ?_
 refine nK2 ?_
 refine n_cond _ rfl (fun hb => ?_) (fun hb => ?_)
 ·have h2 : ¬ 0 ≤ p := by simpa using hb
  rw [if_neg h2, show decide (0 ≤ p) = false by simpa using h2]
  refine nK2 ?_
  refine s_reg rfl ?_
  refine rp 4 rfl (op_assign rfl oC) ?_
  refine rp 5 rfl (op_assign rfl oC) ?_
  refine rn ?_
  refine nK2 ?_
  refine Next.weak [0, 1, 2, 3] [] (by rfl) (keepsN hC _ rfl) (G' := [(4, IV .i64 0), (5, BV false)]) (H' := HH h) (by repeat (first | exact trivial | refine ⟨⟨_, rfl, .inl ⟨rfl, rfl⟩⟩, ?_⟩ | refine ⟨⟨_, rfl, .inl ⟨slEq rfl tN, rfl⟩⟩, ?_⟩ | refine ⟨⟨_, rfl, .inl ⟨ivEq tX, rfl⟩⟩, ?_⟩)) (by exact ⟨ent_same rfl rfl rfl tL, ⟨ent_same rfl rfl rfl tL, ⟨ent_same rfl rfl rfl tL, ⟨ent_same rfl rfl rfl tL, trivial⟩⟩⟩⟩) (fun _ h => by simp at h) ?_
  exact n_out2 rfl (by rfl) rfl (.inl ⟨_, _, rfl, rfl, rfl⟩)
 ·have h2 : 0 ≤ p := by simpa using hb
  rw [if_pos h2, show decide (0 ≤ p) = true by simpa using h2]
  refine nK2 ?_
  refine s_reg rfl ?_
  refine rm 10 rfl rfl rfl ?_
  refine rp 11 rfl (op_nilck_ptr rfl (oT rfl)) ?_
  refine rp 12 rfl (op_fld_ptr (by decide) rfl (oT rfl)) ?_
  refine rl 13 rfl (op_load1_refs rfl (oT rfl) tH rfl) ?_
  refine rm 14 rfl rfl rfl ?_
  refine rp 15 rfl (op_idx_sl0 _ rfl (oT rfl) (oT rfl) tD) ?_
  refine rl 16 rfl (op_load1_flat rfl (oT rfl) tH rfl) ?_
  refine ra 4 rfl rfl rfl ?_
  refine rp 5 rfl (op_assign rfl oC) ?_
  refine rn ?_
  refine nK2 ?_
  refine Next.weak [0, 1, 2, 3] [] (by rfl) (keepsN hC _ rfl) (G' := [(4, IV .i64 k), (5, BV true)]) (H' := HH h) (by repeat (first | exact trivial | refine ⟨⟨_, rfl, .inl ⟨rfl, rfl⟩⟩, ?_⟩ | refine ⟨⟨_, rfl, .inl ⟨slEq rfl tN, rfl⟩⟩, ?_⟩ | refine ⟨⟨_, rfl, .inl ⟨ivEq tX, rfl⟩⟩, ?_⟩)) (by exact ⟨ent_same rfl rfl rfl tL, ⟨ent_same rfl rfl rfl tL, ⟨ent_same rfl rfl rfl tL, ⟨ent_same rfl rfl rfl tL, trivial⟩⟩⟩⟩) (fun _ h => by simp at h) ?_
  exact n_out2 rfl (by rfl) rfl (.inl ⟨_, _, rfl, rfl, rfl⟩)
theorem min_c (h : Hq) (o : h.Ok) : Meets Try.prog 69 [.ptr 0 3 0 0] 4 (HH h) (.fz (.tup [If .i64 (h.item 0 : Nat), If .i64 (if h.it = [] then 0 else h.key (h.item 0)), Bf (!h.it.isEmpty)])) (HH h) 4 := by
 have hl := len_c h
 refine Meets.intro Try.func69 rfl (Nat.le_of_ble_eq_true rfl) fun C hC => ?_
 simp only [List.map, argEnv, Nat.reduceAdd]
 refine nK2 ?_
 refine s_reg rfl ?_
 refine rp 2 rfl (op_assign rfl oC) ?_
 refine rp 3 rfl (op_assign rfl oC) ?_
 refine rp 4 rfl (op_assign rfl oC) ?_
 refine rn ?_
 refine nK2 ?_
 refine s_reg rfl ?_
 refine rm 5 rfl rfl rfl ?_
 refine rl 6 rfl (op_call_read (n := 4) [0, 1, 2, 3] (fun _ => hl) rfl (Opd.func _) (oS (oT rfl) Opds.nil) rfl rfl (Lent.of rfl rfl (by exact ⟨⟨rfl, rfl, rfl, tL⟩, ⟨rfl, rfl, rfl, trivial⟩, ⟨rfl, rfl, rfl, trivial⟩, ⟨rfl, rfl, rfl, trivial⟩, trivial⟩) rfl) rfl) ?_
 refine rp 7 rfl (op_eql rfl (oT rfl) oC) ?_
 refine rn ?_
 refine nK2 ?_
 refine n_cond _ rfl (fun hb => ?_) (fun hb => ?_)
 ·have h2 : h.it = [] := by simpa using hb
  have e0 : h.item 0 = 0 := by unfold Hq.item; rw [h2]; rfl
  rw [if_pos h2, e0, show (!h.it.isEmpty) = false by rw [h2]; rfl]
  refine nK2 ?_
  refine s_reg rfl ?_
  refine rp 2 rfl (op_assign rfl oC) ?_
  refine rp 3 rfl (op_assign rfl oC) ?_
  refine rp 4 rfl (op_assign rfl oC) ?_
  refine rn ?_
  refine nK2 ?_
  refine Next.weak [0, 1, 2, 3] [] (by rfl) (keepsN hC _ rfl) (G' := [(2, IV .i64 0), (3, IV .i64 0), (4, BV false)]) (H' := HH h) (by repeat (first | exact trivial | refine ⟨⟨_, rfl, .inl ⟨rfl, rfl⟩⟩, ?_⟩ | refine ⟨⟨_, rfl, .inl ⟨slEq rfl tN, rfl⟩⟩, ?_⟩ | refine ⟨⟨_, rfl, .inl ⟨ivEq tX, rfl⟩⟩, ?_⟩)) (by exact ⟨ent_same rfl rfl rfl tL, ⟨ent_same rfl rfl rfl tL, ⟨ent_same rfl rfl rfl tL, ⟨ent_same rfl rfl rfl tL, trivial⟩⟩⟩⟩) (fun _ h => by simp at h) ?_
  exact n_out3 rfl (by rfl) rfl rfl (.inl ⟨_, _, _, rfl, rfl, rfl, rfl⟩)
 ·have h2 : 0 < h.it.length := Nat.pos_of_ne_zero fun e => by simp [e] at hb
  have hne : h.it ≠ [] := fun e => by rw [e] at h2; exact absurd h2 (by decide)
  have hv := o.item h2
  have hol := o.len
  have r0 := row_of encT h.it 0 0 h2
  rw [if_neg hne, show (!h.it.isEmpty) = true by cases hq : h.it <;> simp_all]
  unfold Hq.item at hv ⊢
  generalize h.it.getD 0 0 = v at *
  have rv := row_of encN h.ky v 0 (by omega)
  unfold Hq.key
  generalize h.ky.getD v 0 = k at *
  refine nK2 ?_
  refine s_draw mixed ?_
  refine rm 8 rfl rfl rfl ?_
  refine rp 9 rfl (op_nilck_ptr rfl (oT rfl)) ?_
  refine rp 10 rfl (op_fld_ptr (by decide) rfl (oT rfl)) ?_
  refine rl 11 rfl (op_load1_refs rfl (oT rfl) tH rfl) ?_
  refine rp 12 rfl (op_idx_sl0 0 rfl (oT rfl) oC (by intro _; exact ⟨rfl, h2⟩)) ?_
  refine rl 13 rfl (op_load1_flat rfl (oT rfl) tH rfl) ?_
  refine rm 14 rfl rfl rfl ?_
  refine rp 15 rfl (op_nilck_ptr rfl (oT rfl)) ?_
  refine rp 16 rfl (op_fld_ptr (by decide) rfl (oT rfl)) ?_
  refine rl 17 rfl (op_load1_refs rfl (oT rfl) tH rfl) ?_
  refine rm 18 rfl rfl rfl ?_
  refine rp 19 rfl (op_nilck_ptr rfl (oT rfl)) ?_
  refine rp 20 rfl (op_fld_ptr (by decide) rfl (oT rfl)) ?_
  refine rl 21 rfl (op_load1_refs rfl (oT rfl) tH rfl) ?_
  refine rp 22 rfl (op_idx_sl0 0 rfl (oT rfl) oC (by intro _; exact ⟨rfl, h2⟩)) ?_
  refine rl 23 rfl (op_load1_flat rfl (oT rfl) tH rfl) ?_
  refine rp 24 rfl (op_idx_sl0 _ rfl (oT rfl) (oT rfl) tD) ?_
  refine rl 25 rfl (op_load1_flat rfl (oT rfl) tH rfl) ?_
  refine ra 2 rfl rfl rfl ?_
  refine ra 3 rfl rfl rfl ?_
  refine rp 4 rfl (op_assign rfl oC) ?_
  refine Run.nil (FinD.mk (by kernel_rfl) ?_)
  refine nK2 ?_
  refine Next.weak [0, 1, 2, 3] [] (by rfl) (keepsN hC _ rfl) (G' := [(2, IV .i64 v), (3, IV .i64 k), (4, BV true)]) (H' := HH h) (by repeat (first | exact trivial | refine ⟨⟨_, rfl, .inl ⟨rfl, rfl⟩⟩, ?_⟩ | refine ⟨⟨_, rfl, .inl ⟨slEq rfl tN, rfl⟩⟩, ?_⟩ | refine ⟨⟨_, rfl, .inl ⟨ivEq tX, rfl⟩⟩, ?_⟩)) (by exact ⟨ent_same rfl rfl rfl tL, ⟨ent_same rfl rfl rfl tL, ⟨ent_same rfl rfl rfl tL, ⟨ent_same rfl rfl rfl tL, trivial⟩⟩⟩⟩) (fun _ h => by simp at h) ?_
  exact n_out3 rfl (by rfl) rfl rfl (.inl ⟨_, _, _, rfl, rfl, rfl, rfl⟩)
end Go.Proofs.Ytnkhlbljnmodbaa
namespace Go.Proofs.Ytnkhlbljnmodbaa
open Go Go.RT Go.Proofs Go.Pl
set_option linter.all false
set_option maxRecDepth 20000
abbrev HX (h : Hq) : Hp := [(0, some (.refs 3 [[.sl 4 1 0 h.it.length, .sl 2 1 0 h.pl.length, .sl 3 1 0 h.ky.length]])), (4, OT h.it), (2, OI h.pl), (3, OI h.ky)]
theorem settle_i (h : Hq) (o : HI h) (a b : Int) (i : Nat) (ha : a = i) (hb : b = h.it.length) (hi : i < h.it.length) (hm : h.it.length ≤ 2000000) : Meets Try.prog 66 [IV .i64 a, IV .i64 b, .clo 67 [.ptr 0 3 0 0] [], .clo 68 [.ptr 0 3 0 0] []] 4 (HH h) (.fz (.tup [])) (HH (settleH h i h.it.length)) 4 := by
 subst ha; subst hb; exact settle_c h o.ok i h.it.length hi rfl hm
theorem set_c (h : Hq) (o : HI h) (v : Nat) (k : Int) (hv : v < h.pl.length) (hm : h.it.length ≤ 1999999) : Meets Try.prog 53 [.ptr 0 3 0 0, IV .i64 v, IV .i64 k] 4 (HH h) (BV true) (HX (setH h v k)) 5 := by
 have rv := row_of encN h.pl v 0 hv
 have hol := o.ok.len
 obtain ⟨op, pl2, hp0, hp1⟩ := o.put hv k
 have hlt := op.lt (v := v) (by rw [pl2]; exact hv) hp0
 obtain ⟨_, e1, e2, e3⟩ := o.set hv k
 have hst := fun a b ha hb => settle_i (putH h v k) op a b ((putH h v k).place v).toNat ha hb hlt (by omega)
 have hse : settleH (putH h v k) ((putH h v k).place v).toNat (putH h v k).it.length = setH h v k := rfl
 rw [hse] at hst
 have rvp := row_of encN (putH h v k).pl v 0 (by rw [pl2]; exact hv)
 have rvk := row_of encN h.ky v 0 (by omega)
 have hpd : h.pl.getD v 0 = h.place v := rfl
 have hpd2 : (putH h v k).pl.getD v 0 = (putH h v k).place v := rfl
 rw [hpd] at rv
 rw [hpd2] at rvp
 refine Meets.intro Try.func53 rfl (Nat.le_of_ble_eq_true rfl) fun C hC => ?_
 simp only [List.map, argEnv, Nat.reduceAdd]
 refine nK2 ?_
 refine s_reg rfl ?_
 refine rp 6 rfl (op_assign rfl oC) ?_
 refine rn ?_
 refine nK2 ?_
 refine s_reg rfl ?_
 refine rm 7 rfl rfl rfl ?_
 refine rp 8 rfl (op_eqlnilp rfl (oT rfl)) ?_
 refine rm 9 rfl rfl rfl ?_
 refine gm 10 rfl rfl tG rfl rfl ?_
 refine rg 11 rfl rfl tG (op_lss rfl (oO rfl tO) oC) ?_
 refine rp 12 rfl (op_pick_or rfl (oT rfl) (oO rfl tO)) ?_
 refine rm 13 rfl rfl rfl ?_
 refine gm 14 rfl rfl tG rfl rfl ?_
 refine gm 15 rfl rfl tG rfl rfl ?_
 refine rg 16 rfl rfl tG (op_nilck_ptr rfl (oO rfl tO)) ?_
 refine rg 17 rfl rfl tG (op_fld_ptr (by decide) rfl (oO rfl tO)) ?_
 refine rk 18 rfl rfl tG (op_load1_refs rfl (oO rfl tO) tH rfl) ?_
 refine rg 19 rfl rfl tG (op_len_sl rfl (oO rfl tO)) ?_
 refine rg 20 rfl rfl tG (op_geq rfl (oO rfl tO) (oO rfl tO)) ?_
 refine rp 21 rfl (op_pick_or rfl (oT rfl) (oO rfl tO)) ?_
 refine rn ?_
 refine nK2 ?_
 refine n_cond _ rfl (fun hb => ?_) (fun hb => ?_)
 ·exfalso; simp at hb; omega
 ·refine nK2 ?_
  refine s_reg rfl ?_
  refine rm 22 rfl rfl rfl ?_
  refine rp 23 rfl (op_nilck_ptr rfl (oT rfl)) ?_
  refine rp 24 rfl (op_fld_ptr (by decide) rfl (oT rfl)) ?_
  refine rl 25 rfl (op_load1_refs rfl (oT rfl) tH rfl) ?_
  refine rm 26 rfl rfl rfl ?_
  refine rp 27 rfl (op_idx_sl0 _ rfl (oT rfl) (oT rfl) tD) ?_
  refine rl 28 rfl (op_load1_flat rfl (oT rfl) tH rfl) ?_
  refine rp 29 rfl (op_lss rfl (oT rfl) oC) ?_
  refine rn ?_
  refine nK2 ?_
  refine n_cond _ rfl (fun hb => ?_) (fun hb => ?_)
  ·have hneg : h.place v < 0 := by simpa using hb
   have hpu : putH h v k = ⟨h.it ++ [v], h.pl.set v h.it.length, h.ky.set v k⟩ := by unfold putH insH; rw [if_pos hneg]
   have e4 : (putH h v k).it.length = h.it.length + 1 := by rw [hpu]; simp
   have q1 : (putH h v k).it = h.it ++ [v] := by rw [hpu]
   have q2 : (putH h v k).pl = h.pl.set v h.it.length := by rw [hpu]
   have q3 : (putH h v k).ky = h.ky.set v k := by rw [hpu]
   refine nK2 ?_
   refine s_draw mixed ?_
   refine rm 30 rfl rfl rfl ?_
   refine rp 31 rfl (op_nilck_ptr rfl (oT rfl)) ?_
   refine rp 32 rfl (op_fld_ptr (by decide) rfl (oT rfl)) ?_
   refine rl 33 rfl (op_load1_refs rfl (oT rfl) tH rfl) ?_
   refine rm 34 rfl rfl rfl ?_
   refine rm 35 rfl rfl rfl ?_
   refine rp 36 rfl (op_nilck_ptr rfl (oT rfl)) ?_
   refine rp 37 rfl (op_fld_ptr (by decide) rfl (oT rfl)) ?_
   refine rl 38 rfl (op_load1_refs rfl (oT rfl) tH rfl) ?_
   refine rp 39 rfl (op_len_sl rfl (oT rfl)) ?_
   refine rp 40 rfl (op_idx_sl0 _ rfl (oT rfl) (oT rfl) tD) ?_
   refine Run.effW (dd := none) rfl rfl (op_store_flat rfl (oT rfl) (oT rfl) tC rfl rfl (by first | rfl | assumption) tS) (by first | exact ext_call | exact tE) ?_
   refine Run.nil (FinD.mk (by kernel_rfl) ?_)
   refine nK2 ?_
   refine s_reg rfl ?_
   refine rm 41 rfl rfl rfl ?_
   refine rm 42 rfl rfl rfl ?_
   refine rp 43 rfl (op_nilck_ptr rfl (oT rfl)) ?_
   refine rp 44 rfl (op_fld_ptr (by decide) rfl (oT rfl)) ?_
   refine rl 45 rfl (op_load1_refs rfl (oT rfl) tH rfl) ?_
   refine rm 46 rfl rfl rfl ?_
   refine rp 47 rfl (op_buildSlice_fz rfl (RowsF.cons _ _ _ _ _ _ (oT rfl) tC (by rfl) (RowsF.nil _)) rfl rfl) ?_
   refine Run.eff (dd := some 48) rfl rfl (op_append rfl (oT rfl) (by first | exact Opd.tmp _ _ rfl | exact Opd.nil _ _ (oT rfl)) rfl (by first | rfl | simp) rfl rfl tB tB) ?_
   refine rp 49 rfl (op_nilck_ptr rfl (oT rfl)) ?_
   refine rp 50 rfl (op_fld_ptr (by decide) rfl (oT rfl)) ?_
   refine Run.eff (dd := none) rfl rfl (op_store_refs rfl (oT rfl) (oT rfl) tP rfl rfl rfl tS) ?_
   refine rn ?_
   refine nK2 ?_
   refine s_reg rfl ?_
   refine rm 51 rfl rfl rfl ?_
   refine rp 52 rfl (op_nilck_ptr rfl (oT rfl)) ?_
   refine rp 53 rfl (op_fld_ptr (by decide) rfl (oT rfl)) ?_
   refine rl 54 rfl (op_load1_refs rfl (oT rfl) tH rfl) ?_
   refine rm 55 rfl rfl rfl ?_
   refine rm 56 rfl rfl rfl ?_
   refine rp 57 rfl (op_idx_sl0 _ rfl (oT rfl) (oT rfl) tD) ?_
   refine Run.eff (dd := none) rfl rfl (op_store_flat rfl (oT rfl) (oT rfl) tC rfl rfl (by first | rfl | assumption) tS) ?_
   refine rn ?_
   refine nK2 ?_
   generalize putH h v k = p at *
   refine Next.weak [0, 1, 2, 3, 4] [] (by rfl) (keepsN hC _ rfl) (G' := [(0, .ptr 0 3 0 0), (1, IV .i64 v)]) (H' := HX p) (by repeat (first | exact trivial | refine ⟨⟨_, rfl, .inl ⟨rfl, rfl⟩⟩, ?_⟩ | refine ⟨⟨_, rfl, .inl ⟨slEq rfl tN, rfl⟩⟩, ?_⟩ | refine ⟨⟨_, rfl, .inl ⟨ivEq tX, rfl⟩⟩, ?_⟩)) (by exact ⟨ent_same rfl rfl (by rw [q1, q2, q3]; simp only [List.length_append, List.length_set, List.length_singleton]; rfl) tL, ⟨ent_same rfl rfl (flEq rfl (by rw [q1, List.map_append]; rfl)) trivial, ⟨ent_same rfl rfl (flEq rfl (by rw [q2, List.map_set]; rfl)) trivial, ⟨ent_same rfl rfl (flEq rfl (by rw [q3, List.map_set]; rfl)) trivial, trivial⟩⟩⟩⟩) (fun _ h => by simp at h) ?_
   generalize hpp : p.place v = pv at *
   refine nK2 ?_
   refine s_draw mixed ?_
   refine rm 58 rfl rfl rfl ?_
   refine rp 59 rfl (op_nilck_ptr rfl (oT rfl)) ?_
   refine rp 60 rfl (op_fld_ptr (by decide) rfl (oT rfl)) ?_
   refine rl 61 rfl (op_load1_refs rfl (oT rfl) tH rfl) ?_
   refine rm 62 rfl rfl rfl ?_
   refine rp 63 rfl (op_idx_sl0 v rfl (oT rfl) (oT rfl) (by intro _; exact ⟨rfl, by omega⟩)) ?_
   refine rl 64 rfl (op_load1_flat rfl (oT rfl) tH rfl) ?_
   refine rm 65 rfl rfl rfl ?_
   refine rp 66 rfl (op_nilck_ptr rfl (oT rfl)) ?_
   refine rp 67 rfl (op_fld_ptr (by decide) rfl (oT rfl)) ?_
   refine rl 68 rfl (op_load1_refs rfl (oT rfl) tH rfl) ?_
   refine rp 69 rfl (op_len_sl rfl (oT rfl)) ?_
   refine rm 70 rfl rfl rfl ?_
   refine rp 71 rfl (op_makeFunc rfl (oS (oT rfl) Opds.nil) Opds.nil) ?_
   refine rm 72 rfl rfl rfl ?_
   refine rp 73 rfl (op_makeFunc rfl (oS (oT rfl) Opds.nil) Opds.nil) ?_
   refine Run.effW (dd := some 74) rfl rfl (op_call (n := 4) (n' := 4) [0, 4, 2, 3] (fun _ => hst _ _ (by omega) rfl) rfl (Opd.func _) (oS (oT rfl) (oS (oT rfl) (oS (oT rfl) (oS (oT rfl) Opds.nil)))) rfl rfl (Lent.of rfl rfl (by exact ⟨⟨rfl, rfl, rfl, tL⟩, ⟨rfl, rfl, rfl, trivial⟩, ⟨rfl, rfl, rfl, trivial⟩, ⟨rfl, rfl, rfl, trivial⟩, trivial⟩) rfl) rfl rfl rfl rfl rfl) (by first | exact ext_call | exact tE) ?_
   refine Run.nil (FinD.mk (by kernel_rfl) ?_)
   refine nK2 ?_
   refine s_reg rfl ?_
   refine rp 6 rfl (op_assign rfl oC) ?_
   refine rn ?_
   refine nK2 ?_
   refine Next.weak [0, 1, 2, 3, 4] [] (by rfl) (keepsN hC _ rfl) (G' := [(6, BV true)]) (H' := HX (setH h v k)) (by repeat (first | exact trivial | refine ⟨⟨_, rfl, .inl ⟨rfl, rfl⟩⟩, ?_⟩ | refine ⟨⟨_, rfl, .inl ⟨slEq rfl tN, rfl⟩⟩, ?_⟩ | refine ⟨⟨_, rfl, .inl ⟨ivEq tX, rfl⟩⟩, ?_⟩)) (by exact ⟨ent_same rfl rfl rfl tL, ⟨ent_same rfl rfl rfl tL, ⟨ent_same rfl rfl rfl tL, ⟨ent_same rfl rfl rfl tL, trivial⟩⟩⟩⟩) (fun _ h => by simp at h) ?_
   exact n_out1 rfl (by rfl) rfl rfl
  ·have hneg : ¬ h.place v < 0 := by simpa using hb
   have hpu : putH h v k = ⟨h.it, h.pl, h.ky.set v k⟩ := by unfold putH insH; rw [if_neg hneg]
   have q1 : (putH h v k).it = h.it := by rw [hpu]
   have q2 : (putH h v k).pl = h.pl := by rw [hpu]
   have q3 : (putH h v k).ky = h.ky.set v k := by rw [hpu]
   refine nK2 ?_
   refine s_reg rfl ?_
   refine rm 51 rfl rfl rfl ?_
   refine rp 52 rfl (op_nilck_ptr rfl (oT rfl)) ?_
   refine rp 53 rfl (op_fld_ptr (by decide) rfl (oT rfl)) ?_
   refine rl 54 rfl (op_load1_refs rfl (oT rfl) tH rfl) ?_
   refine rm 55 rfl rfl rfl ?_
   refine rm 56 rfl rfl rfl ?_
   refine rp 57 rfl (op_idx_sl0 _ rfl (oT rfl) (oT rfl) tD) ?_
   refine Run.eff (dd := none) rfl rfl (op_store_flat rfl (oT rfl) (oT rfl) tC rfl rfl (by first | rfl | assumption) tS) ?_
   refine rn ?_
   refine nK2 ?_
   refine Next.retagCell 0 0 0 rfl rfl rfl rfl rfl ?_
   generalize putH h v k = p at *
   refine Next.weak [0, 1, 2, 3, 4] [] (by rfl) (keepsN hC _ rfl) (G' := [(0, .ptr 0 3 0 0), (1, IV .i64 v)]) (H' := HX p) (by repeat (first | exact trivial | refine ⟨⟨_, rfl, .inl ⟨rfl, rfl⟩⟩, ?_⟩ | refine ⟨⟨_, rfl, .inl ⟨slEq rfl tN, rfl⟩⟩, ?_⟩ | refine ⟨⟨_, rfl, .inl ⟨ivEq tX, rfl⟩⟩, ?_⟩)) (by exact ⟨ent_same rfl rfl (by rw [q1, q2, q3]; simp only [List.length_set]; rfl) tL, ⟨ent_same rfl rfl (flEq rfl (by rw [q1])) trivial, ⟨ent_same rfl rfl (flEq rfl (by rw [q2])) trivial, ⟨ent_same rfl rfl (flEq rfl (by rw [q3, List.map_set]; rfl)) trivial, trivial⟩⟩⟩⟩) (fun _ h => by simp at h) ?_
   generalize hpp : p.place v = pv at *
   refine nK2 ?_
   refine s_draw mixed ?_
   refine rm 58 rfl rfl rfl ?_
   refine rp 59 rfl (op_nilck_ptr rfl (oT rfl)) ?_
   refine rp 60 rfl (op_fld_ptr (by decide) rfl (oT rfl)) ?_
   refine rl 61 rfl (op_load1_refs rfl (oT rfl) tH rfl) ?_
   refine rm 62 rfl rfl rfl ?_
   refine rp 63 rfl (op_idx_sl0 v rfl (oT rfl) (oT rfl) (by intro _; exact ⟨rfl, by omega⟩)) ?_
   refine rl 64 rfl (op_load1_flat rfl (oT rfl) tH rfl) ?_
   refine rm 65 rfl rfl rfl ?_
   refine rp 66 rfl (op_nilck_ptr rfl (oT rfl)) ?_
   refine rp 67 rfl (op_fld_ptr (by decide) rfl (oT rfl)) ?_
   refine rl 68 rfl (op_load1_refs rfl (oT rfl) tH rfl) ?_
   refine rp 69 rfl (op_len_sl rfl (oT rfl)) ?_
   refine rm 70 rfl rfl rfl ?_
   refine rp 71 rfl (op_makeFunc rfl (oS (oT rfl) Opds.nil) Opds.nil) ?_
   refine rm 72 rfl rfl rfl ?_
   refine rp 73 rfl (op_makeFunc rfl (oS (oT rfl) Opds.nil) Opds.nil) ?_
   refine Run.effW (dd := some 74) rfl rfl (op_call (n := 4) (n' := 4) [0, 4, 2, 3] (fun _ => hst _ _ (by omega) rfl) rfl (Opd.func _) (oS (oT rfl) (oS (oT rfl) (oS (oT rfl) (oS (oT rfl) Opds.nil)))) rfl rfl (Lent.of rfl rfl (by exact ⟨⟨rfl, rfl, rfl, tL⟩, ⟨rfl, rfl, rfl, trivial⟩, ⟨rfl, rfl, rfl, trivial⟩, ⟨rfl, rfl, rfl, trivial⟩, trivial⟩) rfl) rfl rfl rfl rfl rfl) (by first | exact ext_call | exact tE) ?_
   refine Run.nil (FinD.mk (by kernel_rfl) ?_)
   refine nK2 ?_
   refine s_reg rfl ?_
   refine rp 6 rfl (op_assign rfl oC) ?_
   refine rn ?_
   refine nK2 ?_
   refine Next.weak [0, 1, 2, 3, 4] [] (by rfl) (keepsN hC _ rfl) (G' := [(6, BV true)]) (H' := HX (setH h v k)) (by repeat (first | exact trivial | refine ⟨⟨_, rfl, .inl ⟨rfl, rfl⟩⟩, ?_⟩ | refine ⟨⟨_, rfl, .inl ⟨slEq rfl tN, rfl⟩⟩, ?_⟩ | refine ⟨⟨_, rfl, .inl ⟨ivEq tX, rfl⟩⟩, ?_⟩)) (by exact ⟨ent_same rfl rfl rfl tL, ⟨ent_same rfl rfl rfl tL, ⟨ent_same rfl rfl rfl tL, ⟨ent_same rfl rfl rfl tL, trivial⟩⟩⟩⟩) (fun _ h => by simp at h) ?_
   exact n_out1 rfl (by rfl) rfl rfl
end Go.Proofs.Ytnkhlbljnmodbaa
namespace Go.Proofs.Ytnkhlbljnmodbaa
open Go Go.RT Go.Proofs Go.Pl
set_option linter.all false
set_option maxRecDepth 20000
theorem drop_c (h : Hq) (o : HI h) (v : Nat) (hv : v < h.pl.length) (hp : 0 ≤ h.place v) (hm : h.it.length ≤ 1999999) : Meets Try.prog 70 [.ptr 0 3 0 0, IV .i64 v] 4 (HH h) (BV true) (HX (dropH h v)) 5 := by
 have hh := has_c h v hv
 have rv := row_of encN h.pl v 0 hv
 have hpd : h.pl.getD v 0 = h.place v := rfl
 rw [hpd] at rv
 have hlt := o.lt hv hp
 have hsw := fun a b ha hb => swap_i h o.ok a b (h.place v).toNat (h.it.length - 1) ha hb hlt (by omega)
 obtain ⟨s1, s2, s3⟩ := swapH_len h (h.place v).toNat (h.it.length - 1)
 obtain ⟨oc, c1, c2, c3⟩ := o.cut hv hp
 have hst : (h.place v).toNat < h.it.length - 1 → ∀ a b, a = ((h.place v).toNat : Int) → b = ((h.it.length - 1 : Nat) : Int) → Meets Try.prog 66 [IV .i64 a, IV .i64 b, .clo 67 [.ptr 0 3 0 0] [], .clo 68 [.ptr 0 3 0 0] []] 4 (HH (cutH h v)) (.fz (.tup [])) (HH (settleH (cutH h v) (h.place v).toNat (h.it.length - 1))) 4 := fun hh a b ha hb => by
  have := settle_i (cutH h v) oc a b (h.place v).toNat ha (by rw [c1]; exact hb) (by rw [c1]; exact hh) (by omega)
  rwa [c1] at this
 have hd1 : (h.place v).toNat < h.it.length - 1 → dropH h v = settleH (cutH h v) (h.place v).toNat (h.it.length - 1) := fun hh => by unfold dropH; rw [if_pos hh]
 have hd2 : ¬ (h.place v).toNat < h.it.length - 1 → dropH h v = cutH h v := fun hh => by unfold dropH; rw [if_neg hh]
 have q1 : (cutH h v).it = (swapH h (h.place v).toNat (h.it.length - 1)).it.take (h.it.length - 1) := rfl
 have q2 : (cutH h v).pl = (swapH h (h.place v).toNat (h.it.length - 1)).pl.set v (-1) := rfl
 have q3 : (cutH h v).ky = (swapH h (h.place v).toNat (h.it.length - 1)).ky := rfl
 generalize swapH h (h.place v).toNat (h.it.length - 1) = sw at *
 generalize cutH h v = ct at *
 have rsv := row_of encN sw.pl v 0 (by omega)
 refine Meets.intro Try.func70 rfl (Nat.le_of_ble_eq_true rfl) fun C hC => ?_
 simp only [List.map, argEnv, Nat.reduceAdd]
 refine nK2 ?_
 refine s_reg rfl ?_
 refine rp 4 rfl (op_assign rfl oC) ?_
 refine rn ?_
 refine nK2 ?_
 refine s_reg rfl ?_
 refine rm 7 rfl rfl rfl ?_
 refine rm 8 rfl rfl rfl ?_
 refine rl 9 rfl (op_call_read (n := 4) [0, 1, 2, 3] (fun _ => hh) rfl (Opd.func _) (oS (oT rfl) (oS (oT rfl) Opds.nil)) rfl rfl (Lent.of rfl rfl (by exact ⟨⟨rfl, rfl, rfl, tL⟩, ⟨rfl, rfl, rfl, trivial⟩, ⟨rfl, rfl, rfl, trivial⟩, ⟨rfl, rfl, rfl, trivial⟩, trivial⟩) rfl) rfl) ?_
 refine rp 10 rfl (op_not rfl (oT rfl)) ?_
 refine rn ?_
 refine nK2 ?_
 refine n_cond _ rfl (fun hb => ?_) (fun hb => ?_)
 ·exfalso; simp at hb; omega
 ·refine nK2 ?_
  refine s_draw mixed ?_
  refine rm 11 rfl rfl rfl ?_
  refine rp 12 rfl (op_nilck_ptr rfl (oT rfl)) ?_
  refine rp 13 rfl (op_fld_ptr (by decide) rfl (oT rfl)) ?_
  refine rl 14 rfl (op_load1_refs rfl (oT rfl) tH rfl) ?_
  refine rm 15 rfl rfl rfl ?_
  refine rp 16 rfl (op_idx_sl0 _ rfl (oT rfl) (oT rfl) tD) ?_
  refine rl 17 rfl (op_load1_flat rfl (oT rfl) tH rfl) ?_
  refine rm 18 rfl rfl rfl ?_
  refine rp 19 rfl (op_nilck_ptr rfl (oT rfl)) ?_
  refine rp 20 rfl (op_fld_ptr (by decide) rfl (oT rfl)) ?_
  refine rl 21 rfl (op_load1_refs rfl (oT rfl) tH rfl) ?_
  refine rp 22 rfl (op_len_sl rfl (oT rfl)) ?_
  refine rp 23 rfl (op_sub rfl (oT rfl) oC tI) ?_
  refine ra 5 rfl rfl rfl ?_
  refine ra 6 rfl rfl rfl ?_
  refine Run.nil (FinD.mk (by kernel_rfl) ?_)
  refine nK2 ?_
  refine s_reg rfl ?_
  refine rm 24 rfl rfl rfl ?_
  refine rm 25 rfl rfl rfl ?_
  refine rm 26 rfl rfl rfl ?_
  refine Run.eff (dd := some 27) rfl rfl (op_call (n := 4) (n' := 4) [0, 1, 2, 3] (fun _ => hsw _ _ (by omega) (by omega)) rfl (Opd.func _) (oS (oT rfl) (oS (oT rfl) (oS (oT rfl) Opds.nil))) rfl rfl (Lent.of rfl rfl (by exact ⟨⟨rfl, rfl, rfl, tL⟩, ⟨rfl, rfl, rfl, trivial⟩, ⟨rfl, rfl, rfl, trivial⟩, ⟨rfl, rfl, rfl, trivial⟩, trivial⟩) rfl) rfl rfl rfl rfl rfl) ?_
  refine rn ?_
  refine nK2 ?_
  refine s_reg rfl ?_
  refine rm 28 rfl rfl rfl ?_
  refine rm 29 rfl rfl rfl ?_
  refine rp 30 rfl (op_nilck_ptr rfl (oT rfl)) ?_
  refine rp 31 rfl (op_fld_ptr (by decide) rfl (oT rfl)) ?_
  refine rl 32 rfl (op_load1_refs rfl (oT rfl) tH rfl) ?_
  refine rm 33 rfl rfl rfl ?_
  refine Run.eff (dd := some 34) rfl rfl (op_slice_sl (h := h.it.length - 1) rfl (oT rfl) (Bnd.yes _ _ _ _ _ (oT rfl) (by intro _; omega)) (by intro _; omega) rfl (by rw [List.length_map])) ?_
  refine rp 35 rfl (op_nilck_ptr rfl (oT rfl)) ?_
  refine rp 36 rfl (op_fld_ptr (by decide) rfl (oT rfl)) ?_
  refine Run.eff (dd := none) rfl rfl (op_store_refs rfl (oT rfl) (oT rfl) tP rfl rfl rfl tS) ?_
  refine rn ?_
  refine nK2 ?_
  refine s_reg rfl ?_
  refine rm 37 rfl rfl rfl ?_
  refine rp 38 rfl (op_nilck_ptr rfl (oT rfl)) ?_
  refine rp 39 rfl (op_fld_ptr (by decide) rfl (oT rfl)) ?_
  refine rl 40 rfl (op_load1_refs rfl (oT rfl) tH rfl) ?_
  refine rm 41 rfl rfl rfl ?_
  refine rp 42 rfl (op_idx_sl0 v rfl (oT rfl) (oT rfl) (by intro _; exact ⟨rfl, by omega⟩)) ?_
  refine Run.eff (dd := none) rfl rfl (op_store_flat rfl (oT rfl) oC tC rfl rfl (by first | rfl | assumption) tS) ?_
  refine rn ?_
  refine nK2 ?_
  refine s_reg rfl ?_
  refine rm 43 rfl rfl rfl ?_
  refine rm 44 rfl rfl rfl ?_
  refine rp 45 rfl (op_lss rfl (oT rfl) (oT rfl)) ?_
  refine rn ?_
  refine nK2 ?_
  refine Next.weak [0, 1, 2, 3, 4] [] (by rfl) (keepsN hC _ rfl) (G' := [(0, .ptr 0 3 0 0), (5, IV .i64 (h.place v)), (6, IV .i64 ((h.it.length : Int) - 1)), (45, BV (decide (h.place v < (h.it.length : Int) - 1)))]) (H' := HX ct) (by repeat (first | exact trivial | refine ⟨⟨_, rfl, .inl ⟨rfl, rfl⟩⟩, ?_⟩ | refine ⟨⟨_, rfl, .inl ⟨slEq rfl tN, rfl⟩⟩, ?_⟩ | refine ⟨⟨_, rfl, .inl ⟨ivEq tX, rfl⟩⟩, ?_⟩)) (by exact ⟨ent_same rfl rfl (by rw [c1, q2, q3]; simp only [List.length_set]; rfl) tL, ⟨ent_same rfl rfl (flEq rfl (by rw [q1, List.map_take])) trivial, ⟨ent_same rfl rfl (flEq rfl (by rw [q2, List.map_set]; rfl)) trivial, ⟨ent_same rfl rfl (flEq rfl (by rw [q3])) trivial, trivial⟩⟩⟩⟩) (fun _ h => by simp at h) ?_
  refine nK2 ?_
  refine n_cond _ rfl (fun hb => ?_) (fun hb => ?_)
  ·have hlt2 : (h.place v).toNat < h.it.length - 1 := by simp at hb; omega
   rw [hd1 hlt2]
   refine nK2 ?_
   refine s_reg rfl ?_
   refine rm 46 rfl rfl rfl ?_
   refine rm 47 rfl rfl rfl ?_
   refine rm 48 rfl rfl rfl ?_
   refine rp 49 rfl (op_makeFunc rfl (oS (oT rfl) Opds.nil) Opds.nil) ?_
   refine rm 50 rfl rfl rfl ?_
   refine rp 51 rfl (op_makeFunc rfl (oS (oT rfl) Opds.nil) Opds.nil) ?_
   refine Run.eff (dd := some 52) rfl rfl (op_call (n := 4) (n' := 4) [0, 4, 2, 3] (fun _ => hst hlt2 _ _ (by omega) (by omega)) rfl (Opd.func _) (oS (oT rfl) (oS (oT rfl) (oS (oT rfl) (oS (oT rfl) Opds.nil)))) rfl rfl (Lent.of rfl rfl (by exact ⟨⟨rfl, rfl, rfl, tL⟩, ⟨rfl, rfl, rfl, trivial⟩, ⟨rfl, rfl, rfl, trivial⟩, ⟨rfl, rfl, rfl, trivial⟩, trivial⟩) rfl) rfl rfl rfl rfl rfl) ?_
   refine rn ?_
   refine nK2 ?_
   refine s_reg rfl ?_
   refine rp 4 rfl (op_assign rfl oC) ?_
   refine rn ?_
   refine nK2 ?_
   refine Next.weak [0, 1, 2, 3, 4] [] (by rfl) (keepsN hC _ rfl) (G' := [(4, BV true)]) (H' := HX (settleH ct (h.place v).toNat (h.it.length - 1))) (by repeat (first | exact trivial | refine ⟨⟨_, rfl, .inl ⟨rfl, rfl⟩⟩, ?_⟩ | refine ⟨⟨_, rfl, .inl ⟨slEq rfl tN, rfl⟩⟩, ?_⟩ | refine ⟨⟨_, rfl, .inl ⟨ivEq tX, rfl⟩⟩, ?_⟩)) (by exact ⟨ent_same rfl rfl rfl tL, ⟨ent_same rfl rfl rfl tL, ⟨ent_same rfl rfl rfl tL, ⟨ent_same rfl rfl rfl tL, trivial⟩⟩⟩⟩) (fun _ h => by simp at h) ?_
   exact n_out1 rfl (by rfl) rfl rfl
  ·have hlt2 : ¬ (h.place v).toNat < h.it.length - 1 := by simp at hb; omega
   rw [hd2 hlt2]
   refine nK2 ?_
   refine s_reg rfl ?_
   refine rp 4 rfl (op_assign rfl oC) ?_
   refine rn ?_
   refine nK2 ?_
   refine Next.weak [0, 1, 2, 3, 4] [] (by rfl) (keepsN hC _ rfl) (G' := [(4, BV true)]) (H' := HX ct) (by repeat (first | exact trivial | refine ⟨⟨_, rfl, .inl ⟨rfl, rfl⟩⟩, ?_⟩ | refine ⟨⟨_, rfl, .inl ⟨slEq rfl tN, rfl⟩⟩, ?_⟩ | refine ⟨⟨_, rfl, .inl ⟨ivEq tX, rfl⟩⟩, ?_⟩)) (by exact ⟨ent_same rfl rfl rfl tL, ⟨ent_same rfl rfl rfl tL, ⟨ent_same rfl rfl rfl tL, ⟨ent_same rfl rfl rfl tL, trivial⟩⟩⟩⟩) (fun _ h => by simp at h) ?_
   exact n_out1 rfl (by rfl) rfl rfl
end Go.Proofs.Ytnkhlbljnmodbaa
namespace Go.Proofs.Ytnkhlbljnmodbaa
open Go Go.RT Go.Proofs Go.Pl
set_option linter.all false
set_option maxRecDepth 20000
theorem pop_none (h : Hq) (o : HI h) (he : h.it = []) : Meets Try.prog 54 [.ptr 0 3 0 0] 4 (HH h) (.fz (.tup [If .i64 0, If .i64 0, Bf false])) (HH h) 4 := by
 have hmn := min_c h o.ok
 rw [if_pos he, show h.item 0 = 0 by unfold Hq.item; rw [he]; rfl, show (!h.it.isEmpty) = false by rw [he]; rfl, show ((0 : Nat) : Int) = 0 from rfl] at hmn
 refine Meets.intro Try.func54 rfl (Nat.le_of_ble_eq_true rfl) fun C hC => ?_
 simp only [List.map, argEnv, Nat.reduceAdd]
 refine nK2 ?_
 refine s_reg rfl ?_
 refine rp 2 rfl (op_assign rfl oC) ?_
 refine rp 3 rfl (op_assign rfl oC) ?_
 refine rp 4 rfl (op_assign rfl oC) ?_
 refine rn ?_
 refine nK2 ?_
 refine s_reg rfl ?_
 refine rm 6 rfl rfl rfl ?_
 refine rl 7 rfl (op_call_read (n := 4) [0, 1, 2, 3] (fun _ => hmn) rfl (Opd.func _) (oS (oT rfl) Opds.nil) rfl rfl (Lent.of rfl rfl (by exact ⟨⟨rfl, rfl, rfl, tL⟩, ⟨rfl, rfl, rfl, trivial⟩, ⟨rfl, rfl, rfl, trivial⟩, ⟨rfl, rfl, rfl, trivial⟩, trivial⟩) rfl) rfl) ?_
 refine rm 5 rfl rfl rfl ?_
 refine rp 8 rfl (op_extract_fz rfl (oT rfl) rfl) ?_
 refine rp 9 rfl (op_extract_fz rfl (oT rfl) rfl) ?_
 refine rp 10 rfl (op_extract_fz rfl (oT rfl) rfl) ?_
 refine ra 2 rfl rfl rfl ?_
 refine ra 3 rfl rfl rfl ?_
 refine ra 4 rfl rfl rfl ?_
 refine rn ?_
 refine nK2 ?_
 refine s_reg rfl ?_
 refine rm 11 rfl rfl rfl ?_
 refine rn ?_
 refine nK2 ?_
 refine n_cond _ rfl (fun hb => ?_) (fun hb => ?_)
 ·exfalso; simp at hb
 ·refine nK2 ?_
  refine s_reg rfl ?_
  refine rm 15 rfl rfl rfl ?_
  refine rm 16 rfl rfl rfl ?_
  refine rm 17 rfl rfl rfl ?_
  refine ra 2 rfl rfl rfl ?_
  refine ra 3 rfl rfl rfl ?_
  refine ra 4 rfl rfl rfl ?_
  refine rn ?_
  refine nK2 ?_
  refine Next.weak [0, 1, 2, 3] [] (by rfl) (keepsN hC _ rfl) (G' := [(2, IV .i64 0), (3, IV .i64 0), (4, BV false)]) (H' := HH h) (by repeat (first | exact trivial | refine ⟨⟨_, rfl, .inl ⟨rfl, rfl⟩⟩, ?_⟩ | refine ⟨⟨_, rfl, .inl ⟨slEq rfl tN, rfl⟩⟩, ?_⟩ | refine ⟨⟨_, rfl, .inl ⟨ivEq tX, rfl⟩⟩, ?_⟩)) (by exact ⟨ent_same rfl rfl rfl tL, ⟨ent_same rfl rfl rfl tL, ⟨ent_same rfl rfl rfl tL, ⟨ent_same rfl rfl rfl tL, trivial⟩⟩⟩⟩) (fun _ h => by simp at h) ?_
  exact n_out3 rfl (by rfl) rfl rfl (.inl ⟨_, _, _, rfl, rfl, rfl, rfl⟩)
theorem pop_some (h : Hq) (o : HI h) (hne : 0 < h.it.length) (hm : h.it.length ≤ 1999999) : Meets Try.prog 54 [.ptr 0 3 0 0] 4 (HH h) (.fz (.tup [If .i64 (h.item 0 : Nat), If .i64 (h.key (h.item 0)), Bf true])) (HX (dropH h (h.item 0))) 5 := by
 have hmn := min_c h o.ok
 rw [if_neg (fun e => by rw [e] at hne; exact absurd hne (by decide)), show (!h.it.isEmpty) = true by cases hq : h.it <;> simp_all] at hmn
 have hd := drop_c h o (h.item 0) (o.ok.item hne) (by rw [o.inv 0 hne]; decide) hm
 generalize h.item 0 = v at *
 generalize h.key v = k at *
 generalize dropH h v = h' at *
 refine Meets.intro Try.func54 rfl (Nat.le_of_ble_eq_true rfl) fun C hC => ?_
 simp only [List.map, argEnv, Nat.reduceAdd]
 refine nK2 ?_
 refine s_reg rfl ?_
 refine rp 2 rfl (op_assign rfl oC) ?_
 refine rp 3 rfl (op_assign rfl oC) ?_
 refine rp 4 rfl (op_assign rfl oC) ?_
 refine rn ?_
 refine nK2 ?_
 refine s_reg rfl ?_
 refine rm 6 rfl rfl rfl ?_
 refine rl 7 rfl (op_call_read (n := 4) [0, 1, 2, 3] (fun _ => hmn) rfl (Opd.func _) (oS (oT rfl) Opds.nil) rfl rfl (Lent.of rfl rfl (by exact ⟨⟨rfl, rfl, rfl, tL⟩, ⟨rfl, rfl, rfl, trivial⟩, ⟨rfl, rfl, rfl, trivial⟩, ⟨rfl, rfl, rfl, trivial⟩, trivial⟩) rfl) rfl) ?_
 refine rm 5 rfl rfl rfl ?_
 refine rp 8 rfl (op_extract_fz rfl (oT rfl) rfl) ?_
 refine rp 9 rfl (op_extract_fz rfl (oT rfl) rfl) ?_
 refine rp 10 rfl (op_extract_fz rfl (oT rfl) rfl) ?_
 refine ra 2 rfl rfl rfl ?_
 refine ra 3 rfl rfl rfl ?_
 refine ra 4 rfl rfl rfl ?_
 refine rn ?_
 refine nK2 ?_
 refine s_reg rfl ?_
 refine rm 11 rfl rfl rfl ?_
 refine rn ?_
 refine nK2 ?_
 refine n_cond _ rfl (fun hb => ?_) (fun hb => ?_)
 ·refine nK2 ?_
  refine s_reg rfl ?_
  refine rm 12 rfl rfl rfl ?_
  refine rm 13 rfl rfl rfl ?_
  refine Run.eff (dd := some 14) rfl rfl (op_call (n := 4) (n' := 5) [0, 1, 2, 3] (fun _ => hd) rfl (Opd.func _) (oS (oT rfl) (oS (oT rfl) Opds.nil)) rfl rfl (Lent.of rfl rfl (by exact ⟨⟨rfl, rfl, rfl, tL⟩, ⟨rfl, rfl, rfl, trivial⟩, ⟨rfl, rfl, rfl, trivial⟩, ⟨rfl, rfl, rfl, trivial⟩, trivial⟩) rfl) rfl rfl rfl rfl rfl) ?_
  refine rn ?_
  refine nK2 ?_
  refine s_reg rfl ?_
  refine rm 15 rfl rfl rfl ?_
  refine rm 16 rfl rfl rfl ?_
  refine rm 17 rfl rfl rfl ?_
  refine ra 2 rfl rfl rfl ?_
  refine ra 3 rfl rfl rfl ?_
  refine ra 4 rfl rfl rfl ?_
  refine rn ?_
  refine nK2 ?_
  refine Next.weak [0, 1, 2, 3, 4] [] (by rfl) (keepsN hC _ rfl) (G' := [(2, IV .i64 v), (3, IV .i64 k), (4, BV true)]) (H' := HX h') (by repeat (first | exact trivial | refine ⟨⟨_, rfl, .inl ⟨rfl, rfl⟩⟩, ?_⟩ | refine ⟨⟨_, rfl, .inl ⟨slEq rfl tN, rfl⟩⟩, ?_⟩ | refine ⟨⟨_, rfl, .inl ⟨ivEq tX, rfl⟩⟩, ?_⟩)) (by exact ⟨ent_same rfl rfl rfl tL, ⟨ent_same rfl rfl rfl tL, ⟨ent_same rfl rfl rfl tL, ⟨ent_same rfl rfl rfl tL, trivial⟩⟩⟩⟩) (fun _ h => by simp at h) ?_
  exact n_out3 rfl (by rfl) rfl rfl (.inl ⟨_, _, _, rfl, rfl, rfl, rfl⟩)
 ·exfalso; simp at hb
end Go.Proofs.Ytnkhlbljnmodbaa
