/- A part of the proof: RT33, RTZ, RT34, RT35, RT36, RT37, RT38, RT39, RT40, RT41, RT42, RT43, RT44, RT45, RT46, RT47, RT48, RT49, RTW, TabE, PL, S0, S1, S2, S3, G0, RP1, GP1, GP2, SRT, SRI0, GP3, GP4, RP2, JP1, RP3, RP4, RP5, RP6, GP5, GP6, GP7, GP8, GP9, GP10, DP1, DP2, DP3. -/
import Derived.Test.YtkofbemgpeagbaaGreatZB
import Derived.RangeFuncSeq
import Derived.RangeFuncLeaves
import Derived.Laws.BytesString
import Derived.Test.YtkofbemgpeagbaaGreatChecked
import Derived.Eval
import Derived.Shelf.SlSortCmp.NoneTotal
set_option linter.all false
/- The engine, part 33: a region that draws, where only the order of its effects is gone through. -/
namespace Go.RT
section
variable {P : Program} {ops : Array Oper} {N : Nat} {C : Cx} {Q : Exit → Act → World → Prop}
/-- what is asked of the region: no guards; slots written once; who reads a slot waits for it; edges lead back -/
def yOK (ops : Array Oper) (N : Nat) : Bool :=
  (List.range ops.size).all fun i => match ops[i]? with
    | none => true
    | some o => o.guard.isNone && (match o.dst with | some d => decide (d < N) | none => true) && (o.after.all fun e => !Region.binds .any e || decide (e.on < i)) &&
      (List.range ops.size).all fun j => match ops[j]? with
        | none => true
        | some oj => match oj.dst with
          | none => true
          | some d => (!decide (o.dst = some d) || decide (j = i)) && (!(opTmps o).contains d || o.after.any fun e => Region.binds .any e && decide (e.on = j))
structure YOk (ops : Array Oper) (N : Nat) : Prop where
  grd : ∀ (i : Nat) (o : Oper), ops[i]? = some o → o.guard = none
  dst : ∀ (i : Nat) (o : Oper) (d : Tmp), ops[i]? = some o → o.dst = some d → d < N
  back : ∀ (i : Nat) (o : Oper) (e : Edge), ops[i]? = some o → e ∈ o.after → Region.binds .any e = true → e.on < i
  once : ∀ (i j : Nat) (d : Tmp), dstOf ops i = some d → dstOf ops j = some d → i = j
  read : ∀ (i j : Nat) (o : Oper) (d : Tmp), ops[i]? = some o → dstOf ops j = some d → d ∈ opTmps o → ∃ e ∈ o.after, Region.binds .any e = true ∧ e.on = j
theorem yOK_spec (h : yOK ops N = true) : YOk ops N := by
  have hj : ∀ j o, ops[j]? = some o → _ := fun j o ho => by
    have := List.all_eq_true.1 h j (List.mem_range.2 (Array.getElem?_eq_some_iff.1 ho).1)
    rw [ho] at this
    exact this
  simp only [Bool.and_eq_true, Array.all_eq_true_iff_forall_mem, Bool.or_eq_true, Bool.not_eq_true', decide_eq_true_eq, decide_eq_false_iff_not, List.all_eq_true, List.mem_range] at hj
  have hd : ∀ {j : Nat} {d : Tmp}, dstOf ops j = some d → ∃ oj, ops[j]? = some oj ∧ oj.dst = some d ∧ j < ops.size := fun {j d} h => by
    unfold dstOf at h
    obtain ⟨oj, h1, h2⟩ := Option.bind_eq_some_iff.1 h
    exact ⟨oj, h1, h2, (Array.getElem?_eq_some_iff.1 h1).1⟩
  refine ⟨fun j o ho => ?_, fun j o d ho hd => ?_, fun j o e ho he hb => ?_, fun i j d h1 h2 => ?_, fun i j o d ho h1 h2 => ?_⟩
  · exact Option.isNone_iff_eq_none.1 (hj j o ho).1.1.1
  · have := (hj j o ho).1.1.2
    rw [hd] at this
    simpa using this
  · rcases (hj j o ho).1.2 e he with h | h
    · rw [hb] at h; cases h
    · exact h
  · obtain ⟨oi, a1, a2, a3⟩ := hd h1
    obtain ⟨oj, b1, b2, b3⟩ := hd h2
    have := (hj i oi a1).2 j b3
    rw [b1] at this
    simp only [b2, Bool.and_eq_true, Bool.or_eq_true, Bool.not_eq_true', decide_eq_false_iff_not, decide_eq_true_eq] at this
    rcases this.1 with h | h
    · exact absurd a2 h
    · exact h.symm
  · obtain ⟨oj, b1, b2, b3⟩ := hd h1
    have := (hj i o ho).2 j b3
    rw [b1] at this
    simp only [b2, Bool.and_eq_true, Bool.or_eq_true, Bool.not_eq_true', decide_eq_false_iff_not, decide_eq_true_eq] at this
    rcases this.2 with h | h
    · exact absurd h2 (by simpa using h)
    · rw [Array.any_eq_true'] at h
      obtain ⟨e, he, hb⟩ := h
      simp only [Bool.and_eq_true, decide_eq_true_eq] at hb
      exact ⟨e, he, hb⟩
/-- a pure operation that may be done at any time from now on -/
def Virt (P : Program) (ops : Array Oper) (Y : Array Bool) (G : Env) (i : Nat) : Prop :=
  ∃ o p, ops[i]? = some o ∧ (∀ H nx, OpS P o true G H nx p H nx) ∧ (∀ d, o.dst = some d → look G d = some p) ∧ ∀ t ∈ opTmps o, ∀ j, dstOf ops j = some t → Y.getD j false = true
/-- the operations Y are done, or can be done at any time -/
def AnyY (P : Program) (ops : Array Oper) (N : Nat) (C : Cx) (Q : Exit → Act → World → Prop) (Y : Array Bool) (G : Env) (H : Hp) (nx : Nat) : Prop :=
  ∀ (r : Option Nat) fuel X a w, X.size = ops.size → (∀ i, X.getD i false = true → Y.getD i false = true) → (∀ i, Y.getD i false = true → X.getD i false = false → Virt P ops Y G i) → (X.toList.filter (!·)).length ≤ fuel → a.defers = C.df → a.tmps.size = N →
    (∃ S m, Mem C H nx S m w ∧ ∀ t q, look G t = some q → (∀ i, Y.getD i false = true → X.getD i false = false → dstOf ops i ≠ some t) → RepAt w S m a t q) → wpAnyIn (FM r) 0 P .any ops Q fuel X a w
theorem virt_more {Y : Array Bool} {G : Env} {i j : Nat} {d : Option Tmp} {p : PV} (hj : j < Y.size) (hd : dstOf ops j = d) (hY : Y.getD j false = false) (hG : ∀ t, d = some t → look G t = none) (h : Virt P ops Y G i) : Virt P ops (Y.setIfInBounds j true) (gput G d p) i := by
  obtain ⟨o, q, h1, h2, h3, h4⟩ := h
  have hlk : ∀ t ∈ opTmps o, look (gput G d p) t = look G t := fun t ht => by
    rw [look_gput, if_neg]
    intro e
    have := h4 t ht j (hd.trans e)
    rw [hY] at this; cases this
  refine ⟨o, q, h1, fun H nx => ⟨fun C S m a w hm hg hr => (h2 H nx).runE C S m a w hm hg fun t q ht hq => hr t q ht (by rw [hlk t ht]; exact hq)⟩, fun t ht => ?_, fun t ht k hk => ?_⟩
  · rw [look_gput]
    by_cases e : d = some t
    · have := hG t e
      rw [h3 t ht] at this; cases this
    · rw [if_neg e]; exact h3 t ht
  · exact (set_iff hj).2 (.inr (h4 t ht k hk))
def StepY (P : Program) (ops : Array Oper) (N : Nat) (C : Cx) (Q : Exit → Act → World → Prop) (Y : Array Bool) (G : Env) (H : Hp) (nx : Nat) (j : Nat) : Prop :=
  ∃ o p H1 nx1, ops[j]? = some o ∧ OpS P o true G H nx p H1 nx1 ∧ (∀ t, o.dst = some t → look G t = none) ∧ AnyY P ops N C Q (Y.setIfInBounds j true) (gput G o.dst p) H1 nx1
theorem filt_set : ∀ (l : List Bool) (i : Nat) (h : i < l.length), l[i] = false → ((l.set i true).filter (!·)).length + 1 ≤ (l.filter (!·)).length := by
  intro l
  induction l with
  | nil => intro i h; simp at h
  | cons b l ih =>
    intro i h hb
    cases i with
    | zero => simp at hb; subst hb; simp
    | succ i =>
      simp only [List.set_cons_succ, List.filter_cons]
      have := ih i (by simpa using h) (by simpa using hb)
      cases b <;> simp <;> omega
theorem some_ready (hgd : YOk ops N) {X : Array Bool} (hX : X.size = ops.size) (hr : Region.ready .any ops X = []) : ∀ i, i < ops.size → X.getD i false = true := by
  intro i
  induction i using Nat.strongRecOn with
  | _ i ih =>
    intro hi
    cases hx : X.getD i false with
    | true => rfl
    | false =>
      have : i ∈ Region.ready .any ops X := mem_ready.2 ⟨by
        have : i < X.size := by omega
        simpa [Array.getD, this] using hx, ops[i], by simp [hi], fun e he hb => by
        have := hgd.back i ops[i] e (by simp [hi]) he hb
        exact ih e.on this (by omega)⟩
      rw [hr] at this; cases this
theorem AnyY.step {Y : Array Bool} {G : Env} {H : Hp} {nx : Nat} {L : List Nat} (hok : yOK ops N = true) (hYs : Y.size = ops.size) (hr : Region.ready .any ops Y = L) (h0 : L = [] → Next C N G H nx (Q .normal)) (h : ∀ j ∈ L, StepY P ops N C Q Y G H nx j) : AnyY P ops N C Q Y G H nx := by
  have hgd := yOK_spec hok
  intro r fuel
  induction fuel with
  | zero =>
    intro X a w hX hXY hV hf h1 h2 ⟨S, m, hm, hsl⟩
    have hall : ∀ i, i < ops.size → X.getD i false = true := fun i hi => by
      have hi' : i < X.toList.length := by simpa [hX] using hi
      cases hx : X.getD i false with
      | true => rfl
      | false =>
        have hxi : X.toList[i] = false := by
          have : i < X.size := by omega
          simpa [Array.getD, this] using hx
        have := filt_set X.toList i hi' hxi
        omega
    have hrX : Region.ready .any ops X = [] := List.eq_nil_iff_forall_not_mem.2 fun i hi => by
      obtain ⟨g1, o, g2, _⟩ := mem_ready.1 hi
      have hin := (Array.getElem?_eq_some_iff.1 g2).1
      have := hall i hin
      have hi2 : i < X.size := by omega
      simp [Array.getD, hi2] at g1 this
      rw [this] at g1; cases g1
    have hL : L = [] := by
      rw [← hr]
      exact List.eq_nil_iff_forall_not_mem.2 fun i hi => by
        obtain ⟨g1, o, g2, _⟩ := mem_ready.1 hi
        have hin := (Array.getElem?_eq_some_iff.1 g2).1
        have := hXY i (hall i hin)
        have hi2 : i < Y.size := by omega
        simp [Array.getD, hi2] at g1 this
        rw [this] at g1; cases g1
    refine ⟨hrX, h0 hL a w ⟨h1, h2, S, m, hm, fun t q hq => hsl t q hq fun i hi hx => ?_⟩⟩
    intro hd
    have hin : i < ops.size := by
      unfold dstOf at hd
      obtain ⟨oj, g1, _⟩ := Option.bind_eq_some_iff.1 hd
      exact (Array.getElem?_eq_some_iff.1 g1).1
    rw [hall i hin] at hx; cases hx
  | succ fuel ih =>
    intro X a w hX hXY hV hf h1 h2 ⟨S, m, hm, hsl⟩
    refine ⟨fun hrX => ?_, fun i hi => ?_⟩
    · have hall := some_ready hgd hX hrX
      have hL : L = [] := by
        rw [← hr]
        exact List.eq_nil_iff_forall_not_mem.2 fun i hi => by
          obtain ⟨g1, o, g2, _⟩ := mem_ready.1 hi
          have hin := (Array.getElem?_eq_some_iff.1 g2).1
          have := hXY i (hall i hin)
          have hi2 : i < Y.size := by omega
          simp [Array.getD, hi2] at g1 this
          rw [this] at g1; cases g1
      refine h0 hL a w ⟨h1, h2, S, m, hm, fun t q hq => hsl t q hq fun i hi hx => ?_⟩
      intro hd
      have hin : i < ops.size := by
        unfold dstOf at hd
        obtain ⟨oj, g1, _⟩ := Option.bind_eq_some_iff.1 hd
        exact (Array.getElem?_eq_some_iff.1 g1).1
      rw [hall i hin] at hx; cases hx
    · obtain ⟨hn0, o, ho, hrd⟩ := mem_ready.1 hi
      have hin : i < ops.size := (Array.getElem?_eq_some_iff.1 ho).1
      have hiX : i < X.size := by omega
      have hx : X.getD i false = false := by simpa [Array.getD, hiX] using hn0
      have hset := fun j => set_iff (X := X) (i := i) (j := j) hiX
      have hdi : dstOf ops i = o.dst := by unfold dstOf; rw [ho]; rfl
      have hfu : ((X.setIfInBounds i true).toList.filter (!·)).length ≤ fuel := by
        rw [show (X.setIfInBounds i true).toList = X.toList.set i true by simp]
        have := filt_set X.toList i (by simpa using hiX) (by simpa [Array.getD, hiX] using hx)
        omega
      have hopd : ∀ t q, t ∈ opTmps o → look G t = some q → RepAt w S m a t q := fun t q ht hq => hsl t q hq fun j hj hxj hd => by
        obtain ⟨e, he, hb, hon⟩ := hgd.read i j o t ho hd ht
        have := hrd e he hb
        rw [hon, hxj] at this; cases this
      unfold wpOpIn
      simp only [ho]
      rw [if_pos (by simp [Region.wanted, hgd.grd i o ho])]
      by_cases hY : Y.getD i false = true
      · obtain ⟨o', p, g1, g2, g3, g4⟩ := hV i hY hx
        rw [ho] at g1; cases g1
        refine (g2 H nx).run C S m a w hm rfl hopd _ _ fun v w' S' m' hm' hle hv => ?_
        refine ih (X.setIfInBounds i true) (a.put o.dst v) w' (by rw [setSize]; exact hX) (fun j hj => ?_) (fun j hj hxj => hV j hj ?_) hfu (by rw [put_defers]; exact h1) (by rw [put_size]; exact h2) ⟨S', m', hm', fun t q hq hn => ?_⟩
        · rcases (hset j).1 hj with rfl | hj
          · exact hY
          · exact hXY j hj
        · cases hb : X.getD j false with
          | false => rfl
          | true => rw [(hset j).2 (.inr hb)] at hxj; cases hxj
        · by_cases hd : o.dst = some t
          · have := g3 t hd
            rw [hq] at this; cases this
            rw [hd]
            exact ⟨v, put_self (by rw [h2]; exact hgd.dst i o t ho hd), hv⟩
          · obtain ⟨u, hu, hr2⟩ := hsl t q hq fun j hj hxj hdj => by
              by_cases hji : j = i
              · subst hji; exact hd (hdi.symm.trans hdj)
              · refine hn j hj ?_ hdj
                cases hb : (X.setIfInBounds i true).getD j false with
                | false => rfl
                | true => rcases (hset j).1 hb with e | e
                          · exact absurd e hji
                          · rw [e] at hxj; cases hxj
            exact ⟨u, (put_at hd).trans hu, hr2.mono hle⟩
      · have hYf : Y.getD i false = false := by simpa using hY
        have hiL : i ∈ L := by
          rw [← hr]
          refine mem_ready.2 ⟨?_, o, ho, fun e he hb => hXY _ (hrd e he hb)⟩
          have : i < Y.size := by omega
          simpa [Array.getD, this] using hYf
        obtain ⟨o', p, H1, nx1, g1, g2, g3, g4⟩ := h i hiL
        rw [ho] at g1; cases g1
        refine g2.run C S m a w hm rfl hopd _ _ fun v w' S' m' hm' hle hv => ?_
        have hsetY := fun j => set_iff (X := Y) (i := i) (j := j) (by omega)
        refine g4 r fuel (X.setIfInBounds i true) (a.put o.dst v) w' (by rw [setSize]; exact hX) (fun j hj => ?_) (fun j hj hxj => ?_) hfu (by rw [put_defers]; exact h1) (by rw [put_size]; exact h2) ⟨S', m', hm', fun t q hq hn => ?_⟩
        · rcases (hset j).1 hj with rfl | hj
          · exact (hsetY j).2 (.inl rfl)
          · exact (hsetY j).2 (.inr (hXY j hj))
        · have hxf : X.getD j false = false := by
            cases hb : X.getD j false with
            | false => rfl
            | true => rw [(hset j).2 (.inr hb)] at hxj; cases hxj
          rcases (hsetY j).1 hj with rfl | hj
          · rw [(hset j).2 (.inl rfl)] at hxj; cases hxj
          · exact virt_more (by omega) hdi hYf g3 (hV j hj hxf)
        · rw [look_gput] at hq
          by_cases hd : o.dst = some t
          · rw [if_pos hd] at hq; cases hq
            rw [hd]
            exact ⟨v, put_self (by rw [h2]; exact hgd.dst i o t ho hd), hv⟩
          · rw [if_neg hd] at hq
            obtain ⟨u, hu, hr2⟩ := hsl t q hq fun j hj hxj hdj => by
              by_cases hji : j = i
              · subst hji; exact hd (hdi.symm.trans hdj)
              · refine hn j ((hsetY j).2 (.inr hj)) ?_ hdj
                cases hb : (X.setIfInBounds i true).getD j false with
                | false => rfl
                | true => rcases (hset j).1 hb with e | e
                          · exact absurd e hji
                          · rw [e] at hxj; cases hxj
            exact ⟨u, (put_at hd).trans hu, hr2.mono hle⟩
theorem StepY.mk {Y : Array Bool} {G : Env} {H : Hp} {nx j : Nat} {o : Oper} {p : PV} {H1 : Hp} {nx1 : Nat} (h1 : ops[j]? = some o) (h2 : OpS P o true G H nx p H1 nx1) (h3 : ∀ t, o.dst = some t → look G t = none) (h4 : AnyY P ops N C Q (Y.setIfInBounds j true) (gput G o.dst p) H1 nx1) : StepY P ops N C Q Y G H nx j := ⟨o, p, H1, nx1, h1, h2, h3, h4⟩
theorem AnyY.nil {Y : Array Bool} {G : Env} {H : Hp} {nx : Nat} (hok : yOK ops N = true) (hYs : Y.size = ops.size) (hr : Region.ready .any ops Y = []) (h0 : Next C N G H nx (Q .normal)) : AnyY P ops N C Q Y G H nx := .step hok hYs hr (fun _ => h0) fun j hj => by cases hj
theorem AnyY.one {Y : Array Bool} {G : Env} {H : Hp} {nx : Nat} (i : Nat) (hok : yOK ops N = true) (hYs : Y.size = ops.size) (hr : Region.ready .any ops Y = [i]) (h : StepY P ops N C Q Y G H nx i) : AnyY P ops N C Q Y G H nx := .step hok hYs hr (fun e => by cases e) fun j hj => by simp at hj; subst hj; exact h
theorem AnyY.two {Y : Array Bool} {G : Env} {H : Hp} {nx : Nat} (i j : Nat) (hok : yOK ops N = true) (hYs : Y.size = ops.size) (hr : Region.ready .any ops Y = [i, j]) (h : StepY P ops N C Q Y G H nx i) (h2 : StepY P ops N C Q Y G H nx j) : AnyY P ops N C Q Y G H nx := .step hok hYs hr (fun e => by cases e) fun k hk => by
  simp at hk; rcases hk with rfl | rfl
  · exact h
  · exact h2
theorem AnyY.three {Y : Array Bool} {G : Env} {H : Hp} {nx : Nat} (i j k : Nat) (hok : yOK ops N = true) (hYs : Y.size = ops.size) (hr : Region.ready .any ops Y = [i, j, k]) (h : StepY P ops N C Q Y G H nx i) (h2 : StepY P ops N C Q Y G H nx j) (h3 : StepY P ops N C Q Y G H nx k) : AnyY P ops N C Q Y G H nx := .step hok hYs hr (fun e => by cases e) fun l hl => by
  simp at hl; rcases hl with rfl | rfl | rfl
  · exact h
  · exact h2
  · exact h3
theorem AnyY.toRefs {Y : Array Bool} {G : Env} {H : Hp} {nx : Nat} (id : Nat) {sz : Nat} {rows : List (List FV)} {rows' : List (List PV)} (hl : hlook H id = some (.flat sz rows)) (hr : (rows.map fun r => r.map PV.fz) = rows') (h : AnyY P ops N C Q Y G ((id, some (.refs sz rows')) :: H) nx) : AnyY P ops N C Q Y G H nx := by
  subst hr
  intro r fuel X a w h1 h2 h3 h4 h5 h6 ⟨S, m, hm, hsl⟩
  exact h r fuel X a w h1 h2 h3 h4 h5 h6 ⟨S, m, hm.retell hl ORep.toRefs (no_own plain_map), hsl⟩
end
end Go.RT
/- Short names of rules. -/
namespace Go.RT
theorem oT {G : Env} {g : Bool} {t : Tmp} {p : PV} (h : look G t = some p) : Opd G g (.tmp t) p := .tmp t p h
theorem oO {G : Env} {g : Bool} {t : Tmp} {p : PV} {g' : Bool} (h : look G t = some (.opt g' p)) (h2 : g = true → g' = true) : Opd G g (.tmp t) p := .topt t p g' h h2
theorem oC {G : Env} {g : Bool} {v : Value} : Opd G g (.const v) (.fz (.lit v)) := .const v
theorem oS {G : Env} {g : Bool} {x : Operand} {xs : List Operand} {p : PV} {ps : List PV} (h : Opd G g x p) (k : Opds G g xs ps) : Opds G g (x :: xs) (p :: ps) := .cons x xs p ps h k
theorem rpZ (d : Nat) {P : Program} {ops : Array Oper} {F : List Kd → Env → Hp → Nat → Prop} {o : Oper} {rest : List Oper} {G : Env} {H : Hp} {nx : Nat} {ks : List Kd} {p : PV} (h1 : (o.guard, o.dst) = (none, some d)) (h : ∀ H nx, OpS P o true G H nx p H nx) (tl : Run P ops F rest (gput G (some d) p) H nx (.p :: ks)) : Run P ops F (o :: rest) G H nx ks := .pure (congrArg Prod.fst h1) (congrArg Prod.snd h1) h tl
theorem rgZ (e : Nat) {P : Program} {ops : Array Oper} {F : List Kd → Env → Hp → Nat → Prop} {o : Oper} {rest : List Oper} {G : Env} {H : Hp} {nx : Nat} {ks : List Kd} {p : PV} {j : Nat} {b g : Bool} {d : Tmp} (h1 : (o.guard, o.dst) = (some (j, b), some e)) (hd : dstOf ops j = some d) (hl : Grd G d b g) (h : ∀ H nx, OpS P o g G H nx p H nx) (tl : Run P ops F rest (gput G (some e) (.opt g p)) H nx (.p :: ks)) : Run P ops F (o :: rest) G H nx ks := .pureG (congrArg Prod.fst h1) (congrArg Prod.snd h1) hd hl h tl
theorem rlZ (d : Nat) {P : Program} {ops : Array Oper} {F : List Kd → Env → Hp → Nat → Prop} {o : Oper} {rest : List Oper} {G : Env} {H : Hp} {nx : Nat} {ks : List Kd} {p : PV} {L : List Nat} (h1 : (o.guard, o.dst) = (none, some d)) (h : OpL P o true G H L p) (tl : Run P ops F rest (gput G (some d) p) H nx (.l L :: ks)) : Run P ops F (o :: rest) G H nx ks := .load (congrArg Prod.fst h1) (congrArg Prod.snd h1) h tl
theorem rkZ (e : Nat) {P : Program} {ops : Array Oper} {F : List Kd → Env → Hp → Nat → Prop} {o : Oper} {rest : List Oper} {G : Env} {H : Hp} {nx : Nat} {ks : List Kd} {p : PV} {j : Nat} {b g : Bool} {d : Tmp} {L : List Nat} (h1 : (o.guard, o.dst) = (some (j, b), some e)) (hd : dstOf ops j = some d) (hl : Grd G d b g) (h : OpL P o g G H L p) (tl : Run P ops F rest (gput G (some e) (.opt g p)) H nx (.l L :: ks)) : Run P ops F (o :: rest) G H nx ks := .loadG (congrArg Prod.fst h1) (congrArg Prod.snd h1) hd hl h tl
theorem rmZ (d : Nat) {P : Program} {ops : Array Oper} {F : List Kd → Env → Hp → Nat → Prop} {o : Oper} {rest : List Oper} {G : Env} {H : Hp} {nx : Nat} {ks : List Kd} {p : PV} {t : Tmp} (h1 : (o.guard, o.dst) = (none, some d)) (ho : o.op = .move (.tmp t)) (hl : look G t = some p) (tl : Run P ops F rest (gput G (some d) p) H nx (.p :: ks)) : Run P ops F (o :: rest) G H nx ks := .pure (congrArg Prod.fst h1) (congrArg Prod.snd h1) (op_move ho (.tmp t p hl)) tl
theorem raZ (d : Nat) {P : Program} {ops : Array Oper} {F : List Kd → Env → Hp → Nat → Prop} {o : Oper} {rest : List Oper} {G : Env} {H : Hp} {nx : Nat} {ks : List Kd} {p : PV} {t : Tmp} (h1 : (o.guard, o.dst) = (none, some d)) (ho : o.op = .assign (.tmp t)) (hl : look G t = some p) (tl : Run P ops F rest (gput G (some d) p) H nx (.p :: ks)) : Run P ops F (o :: rest) G H nx ks := .pure (congrArg Prod.fst h1) (congrArg Prod.snd h1) (op_assign ho (.tmp t p hl)) tl
theorem gmZ (e : Nat) {P : Program} {ops : Array Oper} {F : List Kd → Env → Hp → Nat → Prop} {o : Oper} {rest : List Oper} {G : Env} {H : Hp} {nx : Nat} {ks : List Kd} {p : PV} {t : Tmp} {j : Nat} {b g : Bool} {d : Tmp} (h1 : (o.guard, o.dst) = (some (j, b), some e)) (hd : dstOf ops j = some d) (hl : Grd G d b g) (ho : o.op = .move (.tmp t)) (hk : look G t = some p) (tl : Run P ops F rest (gput G (some e) (.opt g p)) H nx (.p :: ks)) : Run P ops F (o :: rest) G H nx ks := .pureG (congrArg Prod.fst h1) (congrArg Prod.snd h1) hd hl (op_move ho (.tmp t p hk)) tl
theorem rnZ {P : Program} {ops : Array Oper} {C : Cx} {N : Nat} {l : List Oper} {K : Act → World → Prop} {G : Env} {H : Hp} {nx : Nat} {ks : List Kd} (h : Next C N G H nx K) : Run P ops (FinR C N l K) [] G H nx ks := .nil (.mk h)
open Go
section
variable {r : Option Nat} {P : Program} {C : Cx} {N : Nat} {G : Env} {H : Hp} {nx : Nat} {Q : Exit → Act → World → Prop} {K : Act → World → Prop}
/-- two ways that meet again: the state where they meet is told -/
theorem n_join {x : Code} (G' : Env) (H' : Hp) (n' : Nat) (h1 : Next C N G H nx (x.wpM r P (Exit.then (fun a w => Rel C N G' H' n' a w) Q))) (h2 : Next C N G' H' n' K) : Next C N G H nx (x.wpM r P (Exit.then K Q)) := fun a w hr =>
  Go.wpIn_mono (h1 a w hr) (fun e a' w' hq => by
    cases e with
    | normal => exact h2 a' w' hq
    | _ => exact hq)
end
open Go
section
variable {r : Option Nat} {P : Program} {C : Cx} {N : Nat} {G : Env} {H : Hp} {nx : Nat} {Q : Exit → Act → World → Prop} {K : Act → World → Prop}
end
end Go.RT
/- The engine, part 36: four results; the greatest of six numbers. -/
namespace Go.RT
open Go
set_option linter.all false
section
variable {P : Program} {C : Cx} {N : Nat} {G : Env} {H : Hp} {nx : Nat}
theorem rep_tup4 {w : World} {S : Nat → Prop} {m : Ids} {v1 v2 v3 v4 : Value} {f1 f2 f3 f4 : FV} (h1 : Rep w S m v1 (.fz f1)) (h2 : Rep w S m v2 (.fz f2)) (h3 : Rep w S m v3 (.fz f3)) (h4 : Rep w S m v4 (.fz f4)) : Rep w S m (.tuple #[v1, v2, v3, v4]) (.fz (.tup [f1, f2, f3, f4])) := by
  cases h1 with | fz _ _ h1 => cases h2 with | fz _ _ h2 => cases h3 with | fz _ _ h3 => cases h4 with | fz _ _ h4 =>
  refine .fz _ _ (.tup _ _ rfl fun i c f hc hf => ?_)
  match i with
  | 0 => simp at hc hf; subst hc; subst hf; exact h1
  | 1 => simp at hc hf; subst hc; subst hf; exact h2
  | 2 => simp at hc hf; subst hc; subst hf; exact h3
  | 3 => simp at hc hf; subst hc; subst hf; exact h4
  | i + 4 => simp at hf
theorem s_o4 {fn : Func} {f1 f2 f3 f4 : FV} {rv1 rv2 rv3 rv4 : ResultVar} (hC : C.n0 = 0) (hres : fn.results = #[rv1, rv2, rv3, rv4]) (h : RV P G H rv1 f1) (h' : RV P G H rv2 f2) (h'' : RV P G H rv3 f3) (h''' : RV P G H rv4 f4) : Next C N G H nx (Out P fn C (.fz (.tup [f1, f2, f3, f4])) [] 0 .ret) :=
  s_ofin hC fun S m a w hm hsl => by
    obtain ⟨v1, h2, h1⟩ := h.run hm hsl
    obtain ⟨v2, h4, h3⟩ := h'.run hm hsl
    obtain ⟨v3, h6, h5⟩ := h''.run hm hsl
    obtain ⟨v4, h8, h7⟩ := h'''.run hm hsl
    refine ⟨.tuple #[v1, v2, v3, v4], ?_, (rep_tup4 (m := m) (.fz _ _ h2) (.fz _ _ h4) (.fz _ _ h6) (.fz _ _ h8)).frz⟩
    rcases h1 with ⟨r, rfl, e1⟩ | ⟨r, t, ad, rfl, e1, e2⟩ <;> rcases h3 with ⟨r', rfl, e3⟩ | ⟨r', t', ad', rfl, e3, e4⟩ <;> rcases h5 with ⟨r'', rfl, e5⟩ | ⟨r'', t'', ad'', rfl, e5, e6⟩ <;> rcases h7 with ⟨r3, rfl, e7⟩ | ⟨r3, t3, ad3, rfl, e7, e8⟩ <;> simp [results, hres, asAddr, *]
end
section
variable {P : Program} {o : Oper} {g : Bool} {G : Env} {x1 x2 x3 x4 x5 x6 : Operand} {k : IntKind} {a b c d e f : Int}
end
end Go.RT
/- The engine, part 37: results that hand out owned objects out of cells; look-ups in frozen maps. -/
namespace Go.RT
open Go
open Go.ChangeMaps (setBlock)
set_option linter.all false
variable {P : Program} {G : Env} {H : Hp} {nx : Nat} {C : Cx} {N : Nat} {t t' : TypeId} {x y : Operand} {o : Oper} {g : Bool}
/-- a result variable, as it stands -/
inductive RVP (P : Program) (G : Env) (H : Hp) : ResultVar → PV → Prop where
  | tmp (r : Tmp) (p : PV) : look G r = some p → RVP P G H (.tmp r) p
  | cell (r : Tmp) (t : TypeId) (id sz by_ : Nat) (z : Value) (ps : List PV) : TyA P t true → TyN P t sz by_ z → look G r = some (.ptr id sz 0 0) → hlook H id = some (.refs sz [ps]) → RVP P G H (.cell r t) (.agg ps)
theorem RVP.run {rv : ResultVar} {f : PV} {S : Nat → Prop} {m : Ids} {a : Act} {w : World} (h : RVP P G H rv f) (hm : Mem C H nx S m w) (hsl : ∀ t q, look G t = some q → RepAt w S m a t q) :
    ∃ v, Rep w S m v f ∧ ((∃ r, rv = .tmp r ∧ a.tmps[r]?.getD undef = v) ∨ ∃ r t ad, rv = .cell r t ∧ a.tmps[r]?.getD undef = .pointer (some ad) ∧ (loadVar t ad).run P w = .ok v w) := by
  cases h with
  | tmp r f hl =>
    obtain ⟨v, hv, hr⟩ := hsl r _ hl
    exact ⟨v, hr, .inl ⟨r, rfl, by simp [hv]⟩⟩
  | cell r t id sz by_ z ps h1 h2 hl hh =>
    obtain ⟨v, hv, hr⟩ := hsl r _ hl
    cases hr with
    | ptr _ _ _ _ b hb =>
      rcases hm.objs id _ hh with ⟨k1, _⟩ | ⟨b', c, e, k1, hc, k3, k4, k5⟩
      · rw [hb] at k1; cases k1
      · rw [hb] at k1; cases k1
        obtain ⟨us, hul, hcc, hrr⟩ := cells_list (w := w) (b := b) (off := 0) (R := Rep w S m) (fs := ps) fun j f hf => by
          obtain ⟨u, hu, ho1, hp⟩ := k5 0 j ps f rfl hf
          exact ⟨u, own_cell hc (by simpa using hu), ho1, hp⟩
        have hfl : ps.length = sz := k4 ps (by simp)
        have := run_loadn (P := P) (t := t) (w := w) (ad := ⟨b, 0, none⟩) (by rw [hul, hfl]) (fun j u hu => (hcc j u hu).1)
        exact ⟨.agg us.toArray, .agg _ _ (by simpa using hul) (fun j u f hu hf => hrr j u f (by simpa using hu) hf) (fun j u hu => (hcc j u (by simpa using hu)).2), .inr ⟨r, t, _, rfl, by simp [hv], this⟩⟩
theorem tVP {α : Prop} (h : α := by first | exact RVP.tmp _ _ rfl | exact RVP.cell _ _ _ _ _ _ _ inferInstance inferInstance rfl rfl) : α := h
/-- one result, with the objects L handed out and those of F frozen -/
theorem n_outW1 {fn : Func} {rv : ResultVar} {p q : PV} {Hout : Hp} {n' : Nat} (L F : List Nat) (hres : fn.results = #[rv]) (h1 : RVP P G H rv p) (hnd : nodupB ((keysH Hout).map (renI L)) = true) (hk : keeps C L) (hH : EntH L F H Hout) (hFH : ∀ id, F.contains id = true → ∃ o, hlook H id = some o)
    (e1 : EntV L F H p q) (hn : L.length = n') : Next C N G H nx (Out P fn C q Hout n' .ret) := by
  subst hn
  intro a w hr
  obtain ⟨S, m, hm, hsl⟩ := hr.mem
  obtain ⟨v, h2, h3⟩ := h1.run hm hsl
  obtain ⟨k1, k2⟩ := hm.weak hnd hk hH hFH
  refine fun hdf => ⟨hr.defers.trans hdf, v, ?_, v, _, _, rfl, k1, k2 v _ _ h2 e1⟩
  rcases h3 with ⟨r, rfl, e1⟩ | ⟨r, t, ad, rfl, e1, e2⟩ <;> simp [results, hres, asAddr, *]
section maps
variable {κ ν : Type} [DecidableEq κ] {ek : κ → FV} {ev : ν → FV} {okK : κ → Prop} {kt et : TypeId}
end maps
end Go.RT
/- The engine, part 38: literals whose missing slices are read as empty ones. -/
namespace Go.RT
open Go
set_option linter.all false
variable {P : Program} {G : Env} {t : TypeId} {o : Oper} {g : Bool}
/-- the cells of a zero value; a nil slice may be read as an empty one -/
def zOk : List Value → List FV → Prop
  | [], [] => True
  | u :: us, f :: fs => (f = .lit u ∨ ∃ sz, u = .slice none 0 0 ∧ f = .vals sz []) ∧ zOk us fs
  | _, _ => False
theorem zOk.len : ∀ {us : List Value} {fs : List FV}, zOk us fs → us.length = fs.length
  | [], [], _ => rfl
  | _ :: _, _ :: _, h => by simp [zOk.len h.2]
theorem zOk.at : ∀ {us : List Value} {fs : List FV}, zOk us fs → ∀ (i : Nat) (f : FV), fs[i]? = some f → ∃ u, us[i]? = some u ∧ (f = .lit u ∨ ∃ sz, u = .slice none 0 0 ∧ f = .vals sz [])
  | [], [], _, i, f, h => by simp at h
  | u :: us, f' :: fs, h, i, f, hf => by
    cases i with
    | zero => simp at hf; subst hf; exact ⟨u, rfl, h.1⟩
    | succ i => simpa using zOk.at h.2 i f (by simpa using hf)
theorem zOk.rep {z : Value} {zs : List FV} (h : zOk z.cells.toList zs) (h1 : z.cells.toList.all (·.oneCell') = true) (w : World) (S : Nat → Prop) : ARep (FRep w S) z.cells zs := by
  refine ⟨by simpa using h.len, fun i p hp => ?_⟩
  obtain ⟨u, hu, hq⟩ := h.at i p hp
  rw [Array.getElem?_toList] at hu
  refine ⟨u, hu, List.all_eq_true.1 h1 u (Array.mem_toList_iff.2 (Array.mem_of_getElem? hu)), ?_⟩
  rcases hq with rfl | ⟨sz, rfl, rfl⟩
  · exact .lit _
  · exact .nil _ _ _
theorem op_buildZ {places : List (Nat × Nat)} {n by_ : Nat} {z : Value} {cs : List FV} {parts : List (Nat × Operand)} (zs : List FV) [hb : TyB P t places] [hn : TyN P t n by_ z] (ho : o.op = .build t parts.toArray) (h1 : z.cells.toList.all (·.oneCell') = true) (hz : zOk z.cells.toList zs) (hf : FillF places G g parts zs cs) : OpP P o g G (.fz (.agg cs)) :=
  .of fun S m a w hg ha => by
    obtain ⟨fs, e1, e2⟩ := hb.h
    obtain ⟨A, k1, k2, k3⟩ := hf.run hg ha (fun p hp => by simp only [ho, Op.operands, List.mem_toArray]; exact List.mem_map.2 ⟨p, by simpa using hp, rfl⟩) _ (hz.rep h1 w S)
    refine ⟨.agg A, ?_, .fz _ _ (.agg A cs k2 (fun i c f hc hf => ?_) (fun i c hc => ?_))⟩
    · have : (parts.toArray.map fun p => (p.1, a.eval p.2)).toList = parts.map fun p => (p.1, a.eval p.2) := by simp
      simp [execOp, ho, Instr.build, run_zero hn, run_underlying e1, e2, k1]
    · obtain ⟨u, hu, _, hr⟩ := k3 i f hf
      rw [hc] at hu; cases hu; exact hr
    · have hi : i < cs.length := by rw [← k2]; exact (Array.getElem?_eq_some_iff.1 hc).1
      obtain ⟨u, hu, hone, _⟩ := k3 i cs[i] (by simp [hi])
      rw [hc] at hu; cases hu; exact hone
end Go.RT
/- Loops over functions: the record and the marks as owned raw objects; calls of yield; rounds. -/
namespace Go.RT
open Go
set_option linter.all false
def noC : Obj → Bool
  | .cells .. => false
  | _ => true
theorem room_noC {w : World} {b n : Nat} {x : Obj} (h : w.heap[b]? = some x) (hx : noC x = true) : ¬ roomIs w b n := fun ⟨c, e, fr, h1, _⟩ => by
  rw [h] at h1; cases h1; simp [noC] at hx
section
variable {C : Cx} {H : Hp} {nx : Nat} {S : Nat → Prop} {m : Ids} {w : World}
theorem Mem.raw (hm : Mem C H nx S m w) {id : Nat} {x : Obj} (hl : hlook H id = some (.raw x)) : ∃ b, m id = some (some b) ∧ w.heap[b]? = some x := hm.objs id _ hl
end

/-! ## calls of yield -/
/-- the doer: yield, handed ahead of its arguments -/
def DY (P : Program) (vs : Array Value) (w : World) (R : Ending → World → Prop) : Prop :=
  ∃ l, vs[0]? = some (.func (.yield l) #[] #[]) ∧ YieldAt Fence.wide 0 P l (vs.toList.drop 1).toArray w R
theorem DY.mono {P : Program} (vs : Array Value) (w : World) (R R' : Ending → World → Prop) (h : DY P vs w R) (hr : ∀ e w', R e w' → R' e w') : DY P vs w R' := by
  obtain ⟨l, h1, fn, tmps, assign, body, h2, h3⟩ := h
  exact ⟨l, h1, fn, tmps, assign, body, h2, h3.mono hr⟩
section
variable {P : Program} {o : Oper} {g : Bool} {G : Env} {H : Hp} {nx : Nat}
end
end Go.RT
/- Rounds. -/
namespace Go.RT
open Go
set_option linter.all false
section
variable {P : Program} {C : Cx} {N : Nat} {G : Env} {H : Hp} {nx : Nat} {Q : Exit → Act → World → Prop}
end
end Go.RT
/- A loop over a function: its statement, what follows it, and a function's end with its mark. -/
namespace Go.RT
open Go
set_option linter.all false
/-- C' is C from behind a loop on: the mark D is pending -/
structure After (C C' : Cx) (D : Nat) : Prop where
  df : C'.df = { target := .collected D, args := #[] } :: C.df
  n0 : C'.n0 = C.n0
  m0 : C'.m0 = C.m0
  own : ∀ b, C'.own0 b ↔ (C.w0.heap.size ≤ b ∨ C.own0 b) ∧ b ≠ D
  base : ∃ H nx m, Mem C H nx C'.S0 m C'.w0
  at_ : C'.w0.heap[D]? = some (.deferred (some []))
  notS : ¬ C'.S0 D
  new : C.w0.heap.size ≤ D
section
variable {P : Program} {C C' : Cx} {D N : Nat} {G : Env} {H : Hp} {nx : Nat} {S : Nat → Prop} {m : Ids} {w : World} {Q : Exit → Act → World → Prop}
theorem After.lt (h : After C C' D) : D < C'.w0.heap.size := (Array.getElem?_eq_some_iff.1 h.at_).1
theorem After.still (h : After C C' D) (hm : Mem C' H nx S m w) : w.heap[D]? = some (.deferred (some [])) ∧ ¬ S D := by
  have hno : ¬ C'.own0 D := fun e => ((h.own D).1 e).2 rfl
  refine ⟨(hm.frame D h.lt hno).trans h.at_, fun hs => ?_⟩
  rcases hm.sub D hs with k | k | k
  · exact h.notS k
  · exact hno k
  · have := h.lt; omega
/-- seen from the beginning, with the mark's block taken -/
theorem After.back (h : After C C' D) (hm : Mem C' H nx S m w) (y : Obj) (hy : noC y = true) : Mem C H nx S m (w.putObj D y) ∧ Le S m w S m (w.putObj D y) := by
  obtain ⟨H0, nx0, m0', hb⟩ := h.base
  obtain ⟨hD, hnS⟩ := h.still hm
  have hDlt : D < w.heap.size := Nat.lt_of_lt_of_le h.lt hm.size
  have hother : ∀ k, k ≠ D → (w.putObj D y).heap[k]? = w.heap[k]? := fun k hk => World.putObj_heap_other hk
  have hsame : (w.putObj D y).heap[D]? = some y := World.putObj_heap_same hDlt
  have hx : noC (.deferred (some [])) = true := rfl
  have hle : Le S m w S m (w.putObj D y) := ⟨fun _ h => h, fun k hk => hother k (fun e => hnS (e ▸ hk)), fun _ _ h => h, fun k n hr => by
    have hk : k ≠ D := fun e => room_noC hD hx (e ▸ hr)
    obtain ⟨c, e, fr, h1, h2⟩ := hr
    exact ⟨c, e, fr, (hother k hk).trans h1, h2⟩⟩
  have hown : ∀ b, C'.w0.heap.size ≤ b ∨ C'.own0 b → (C.w0.heap.size ≤ b ∨ C.own0 b) ∧ b ≠ D := fun b hb2 => by
    rcases hb2 with k | k
    · exact ⟨.inl (Nat.le_trans hb.size k), fun e => by have := h.lt; omega⟩
    · exact (h.own b).1 k
  have hne : ∀ id o b, hlook H id = some o → m id = some (some b) → b ≠ D := fun id o b h1 h2 => (hown b (hm.blk id o b h1 h2).2.2).2
  refine ⟨⟨⟨hm.os.1.trans hb.os.1, Nat.le_trans hb.os.2 hm.os.2⟩, hm.tape.trans hb.tape, hm.output.trans hb.output, fun a ha => ?_, Nat.le_trans hb.size (by simpa using hm.size), fun b h1 h2 => ?_, ?_, fun b hs => ?_, fun i x hx => hb.n0 i x hx,
    fun id o ho => (hm.objs id o ho).mono hle fun b hb2 => hother b (hne id o b ho hb2), fun id o b h1 h2 => ?_, hm.inj, fun b hs => by simpa using hm.stab b hs, hm.fresh, ?_⟩, hle⟩
  · have hne : a.block ≠ D := fun e => by have := h.new; omega
    have h1 := hm.fz a (Nat.lt_of_lt_of_le ha hb.size)
    have h2 := hb.fz a ha
    rw [← h2, ← h1]
    simp only [World.frozen?, hother _ hne]
  · have hne : b ≠ D := fun e => by have := h.new; omega
    rw [hother b hne, hm.frame b (Nat.lt_of_lt_of_le h1 hb.size) (fun e => by
      rcases ((h.own b).1 e).1 with k | k
      · omega
      · exact h2 k)]
    exact hb.frame b h1 h2
  · have h1 : Le C.S0 C.m0 C.w0 C'.S0 C'.m0 C'.w0 := ⟨hb.le.st, hb.le.same, fun i x hx => by rw [h.m0]; exact hx, hb.le.room⟩
    exact (h1.trans hm.le).trans hle
  · rcases hm.sub b hs with k | k | k
    · exact hb.sub b k
    · rcases ((h.own b).1 k).1 with q | q
      · exact .inr (.inr q)
      · exact .inr (.inl q)
    · exact .inr (.inr (Nat.le_trans hb.size k))
  · obtain ⟨k1, k2, k3⟩ := hm.blk id o b h1 h2
    exact ⟨k1, by simpa using k2, (hown b k3).1⟩
  · obtain ⟨ib, hn⟩ := hm.nst
    refine ⟨_, hn.keep (C' := C) (fun i => i) (fun id sz i j isz irows hO => ⟨hO, rfl⟩) (fun _ _ _ _ _ _ _ _ _ _ _ _ _ _ h => h) hle.st hle.same (fun id sz i j isz irows b2 c2 e2 u hO k1 k2 k3 => ⟨c2, e2, (hother b2 (fun e => by subst e; rw [hD] at k2; cases k2)).trans k2, k3⟩) (fun id sz i j isz irows b' hO hb2 h1 h2 h3 h4 => ?_)⟩
    obtain ⟨q1, q2⟩ := hown b' h3
    exact ⟨hother b' q2, h1, by simpa using h2, q1, h4⟩
end
end Go.RT
/- The statement of a loop over a function. -/
namespace Go.RT
open Go
set_option linter.all false
section
variable {P : Program} {C : Cx} {N : Nat} {G : Env} {H : Hp} {nx : Nat} {Q : Exit → Act → World → Prop}
/-- a slot holds a closure -/
inductive CloAt (G : Env) (t : Tmp) (f : FuncId) : List PV → Prop where
  | own (caps : List PV) : look G t = some (.clo f [] caps) → CloAt G t f caps
  | fz (fs : List FV) : look G t = some (.fz (.clo f fs)) → CloAt G t f (fs.map PV.fz)
theorem CloAt.val {t : Tmp} {f : FuncId} {caps : List PV} (h : CloAt G t f caps) {S : Nat → Prop} {m : Ids} {w : World} {a : Act} (hsl : ∀ t q, look G t = some q → RepAt w S m a t q) : ∃ cs : Array Value, a.eval (.tmp t) = .func (.func f) #[] cs ∧ cs.size = caps.length ∧ ∀ (i : Nat) (c : Value) (p : PV), cs[i]? = some c → caps[i]? = some p → Rep w S m c p := by
  cases h with
  | own _ hl =>
    obtain ⟨v, hv, hr⟩ := hsl t _ hl
    cases hr with
    | clo _ as0 cs _ _ q1 q2 q3 q4 =>
      have has : as0 = #[] := by simpa using q1
      subst has
      exact ⟨cs, by simp [Act.eval, hv], q2, q4⟩
  | fz fs hl =>
    obtain ⟨v, hv, hr⟩ := hsl t _ hl
    cases hr with
    | fz _ _ hr =>
      cases hr with
      | clo _ cs _ q2 q4 =>
        refine ⟨cs, by simp [Act.eval, hv], by simpa using q2, fun i c p hc hp => ?_⟩
        rw [List.getElem?_map] at hp
        obtain ⟨q, hq, rfl⟩ := Option.map_eq_some_iff.1 hp
        exact .fz _ _ (q4 i c q hc hq)
/-- what is skipped -/
theorem op_never {o : Oper} {g : Bool} {p : PV} (h : g = false) : ∀ H nx, OpS P o g G H nx p H nx := fun H nx => ⟨fun C S m a w hm hg => by rw [h] at hg; cases hg⟩
theorem Mem.keepH {S : Nat → Prop} {m : Ids} {w : World} (hm : Mem C H nx S m w) {H' : Hp} (hH : ∀ i o, hlook H' i = some o → hlook H i = some o) : Mem C H' nx S m w :=
  hm.step (Le.refl _ _ _) ⟨rfl, Nat.le_refl _⟩ rfl rfl (fun _ _ => rfl) (Nat.le_refl _) (fun _ _ _ => rfl) (fun _ h => .inl h) (fun i o ho => hm.objs i o (hH i o ho)) (fun i o b ho => hm.blk i o b (hH i o ho))
    (fun i j o o' b h1 h2 => hm.inj i j o o' b (hH _ _ h1) (hH _ _ h2)) hm.stab hm.fresh (hm.nkeep (Le.refl _ _ _) (Nat.le_refl _) (fun _ _ _ _ _ _ h => h.of fun o h => hH _ _ h) (fun _ _ _ _ _ _ _ c e _ _ _ k2 k3 => ⟨c, e, k2, k3⟩) (fun b' _ h2 h3 => ⟨rfl, h2, fun id2 o2 h => h3 _ _ (hH _ _ h)⟩))
theorem MeetsD.keepH {D : Array Value → World → (Ending → World → Prop) → Prop} (hD : ∀ args w R R', D args w R → (∀ e w', R e w' → R' e w') → D args w R') {args : List PV} {n n' : Nat} {Hin Hout Hout' : Hp} {res : PV} (h : MeetsD D args n Hin res Hout n') (hH : ∀ i o, hlook Hout' i = some o → hlook Hout i = some o) : MeetsD D args n Hin res Hout' n' :=
  ⟨fun C vs h1 h2 h3 h4 => hD _ _ _ _ (h.run C vs h1 h2 h3 h4) fun e w' ⟨v, S', m', k1, k2, k3⟩ => ⟨v, S', m', k1, k2.keepH hH, k3⟩⟩
theorem Meets.keepH {f : FuncId} {args : List PV} {n n' : Nat} {Hin Hout Hout' : Hp} {res : PV} (h : Meets P f args n Hin res Hout n') (hH : ∀ i o, hlook Hout' i = some o → hlook Hout i = some o) : Meets P f args n Hin res Hout' n' :=
  ⟨fun C vs h1 h2 h3 h4 => Calls.mono (h.run C vs h1 h2 h3 h4) fun e w' ⟨v, S', m', k1, k2, k3⟩ => ⟨v, S', m', k1, k2.keepH hH, k3⟩⟩
end
end Go.RT
/- '==' on structs that hold structs of numbers. -/
namespace Go.RT
open Go
set_option linter.all false
inductive Cmp (P : Program) : List Field → Nat → List FV → List FV → Prop where
  | nil (k : Nat) : Cmp P [] k [] []
  | int (f : Field) (r : List Field) (k : Nat) (kd kk : IntKind) (u v : Int) (a b : List FV) : (f.name != "_") = true → f.offset = k → P.underlying f.type = some (.int kk) → Cmp P r (k + 1) a b → Cmp P (f :: r) k (.lit (.int kd u) :: a) (.lit (.int kd v) :: b)
  | bool (f : Field) (r : List Field) (k : Nat) (u v : Bool) (a b : List FV) : (f.name != "_") = true → f.offset = k → P.underlying f.type = some .bool → Cmp P r (k + 1) a b → Cmp P (f :: r) k (.lit (.bool u) :: a) (.lit (.bool v) :: b)
  | str (f : Field) (r : List Field) (k n : Nat) (c d a b : List FV) : (f.name != "_") = true → f.offset = k → EqS P f.type n → (P.info? f.type).isSome = true → P.cellsOf f.type = n → c.length = n → d.length = n → fitFs P (P.fieldsOf f.type).toList c d = true → Cmp P r (k + n) a b → Cmp P (f :: r) k (c ++ a) (d ++ b)
theorem eqFs_app {P : Program} : ∀ (fs : List Field) (c d a b : List FV), fitFs P fs c d = true → eqFs (c ++ a) (d ++ b) = (eqFs c d && eqFs a b)
  | [], c, d, a, b, h => by
    match c, d, h with
    | [], [], _ => simp [eqFs]
  | f :: fs, c, d, a, b, h => by
    match c, d, h with
    | .lit (.int k u) :: c, .lit (.int k' v) :: d, h =>
      simp only [fitFs, Bool.and_eq_true] at h
      simp only [List.cons_append, eqFs, eqFs_app fs c d a b h.2, Bool.and_assoc]
    | .lit (.bool u) :: c, .lit (.bool v) :: d, h =>
      simp only [fitFs, Bool.and_eq_true] at h
      simp only [List.cons_append, eqFs, eqFs_app fs c d a b h.2, Bool.and_assoc]
theorem cmp_run {P : Program} {w : World} {S : Nat → Prop} (d : Nat) (xs ys : Array Value) (FX FY : List FV) (hx : xs.size = FX.length) (hy : ys.size = FY.length) (rx : ∀ (i : Nat) (c : Value) (f : FV), xs[i]? = some c → FX[i]? = some f → FRep w S c f) (ry : ∀ (i : Nat) (c : Value) (f : FV), ys[i]? = some c → FY[i]? = some f → FRep w S c f)
    {fs : List Field} {k : Nat} {A B : List FV} (h : Cmp P fs k A B) : FX.drop k = A → FY.drop k = B → (Op.eqFields (d + 2) xs ys fs).run P w = .ok (eqFs A B) w := by
  have tail : ∀ (F : List FV) (k : Nat) (x : FV) (r : List FV), F.drop k = x :: r → F[k]? = some x ∧ F.drop (k + 1) = r := fun F k x r e => by
    have e1 : F[k]? = some x := by rw [← List.head?_drop, e]; rfl
    refine ⟨e1, ?_⟩
    have : (F.drop k).tail = F.drop (k + 1) := by simp
    rw [← this, e]; rfl
  have cell : ∀ (V : Array Value) (F : List FV) (k : Nat) (x : FV), V.size = F.length → F[k]? = some x → ∃ c, V[k]? = some c := fun V F k x hs e => by
    have : k < V.size := by rw [hs]; exact (List.getElem?_eq_some_iff.1 e).1
    exact ⟨V[k], by simp [this]⟩
  induction h with
  | nil k => intro _ _; simp [Op.eqFields, eqFs]
  | int f r k kd kk u v a b h1 h2 h3 _ ih =>
    intro ha hb
    obtain ⟨e1, e2⟩ := tail FX k _ _ ha
    obtain ⟨e3, e4⟩ := tail FY k _ _ hb
    obtain ⟨c1, hc1⟩ := cell xs FX k _ hx e1
    obtain ⟨c2, hc2⟩ := cell ys FY k _ hy e3
    have r1 := rx k c1 _ hc1 e1
    have r2 := ry k c2 _ hc2 e3
    cases r1; cases r2
    have hi : isIntT P f.type = true ∨ isBoolT P f.type = true := .inl (by simp [isIntT, h3])
    have ih' := ih e2 e4
    subst h2
    simp only [bne_iff_ne, ne_eq] at h1
    simp only [Op.eqFields, h1, not_false_eq_true, if_true, Sem.run_bind, run_part1 hi xs _ hc1, run_part1 hi ys _ hc2, Result.andThen_ok, run_equalIn_int w (d + 1) f.type kd kk u v h3, eqFs, ne_eq]
    by_cases huv : u = v
    · subst huv; simp [ih']
    · have : (u == v) = false := by simpa using huv
      simp [huv, this]
  | bool f r k u v a b h1 h2 h3 _ ih =>
    intro ha hb
    obtain ⟨e1, e2⟩ := tail FX k _ _ ha
    obtain ⟨e3, e4⟩ := tail FY k _ _ hb
    obtain ⟨c1, hc1⟩ := cell xs FX k _ hx e1
    obtain ⟨c2, hc2⟩ := cell ys FY k _ hy e3
    have r1 := rx k c1 _ hc1 e1
    have r2 := ry k c2 _ hc2 e3
    cases r1; cases r2
    have hi : isIntT P f.type = true ∨ isBoolT P f.type = true := .inr (by simp [isBoolT, h3])
    have ih' := ih e2 e4
    subst h2
    simp only [bne_iff_ne, ne_eq] at h1
    simp only [Op.eqFields, h1, not_false_eq_true, if_true, Sem.run_bind, run_part1 hi xs _ hc1, run_part1 hi ys _ hc2, Result.andThen_ok, run_equalIn_bool' w (d + 1) f.type u v h3, eqFs, ne_eq]
    by_cases huv : u = v
    · subst huv; simp [ih']
    · have : (u == v) = false := by simpa using huv
      simp [huv, this]
  | str f r k n c e a b h1 h2 hS h3 h4 hc hd hfit _ ih =>
    intro ha hb
    obtain ⟨i, h3⟩ := Option.isSome_iff_exists.1 h3
    obtain ⟨s1, s2, s3, s4⟩ := hS.h
    have hag : TyA P f.type true := ⟨_, s1, rfl⟩
    have hdrop : ∀ (F c a : List FV), F.drop k = c ++ a → c.length = n → F.drop (k + n) = a ∧ ∀ (j : Nat) (x : FV), c[j]? = some x → F[k + j]? = some x := fun F c a e hl => by
      refine ⟨by rw [← List.drop_drop, e, ← hl, List.drop_left], fun j x hj => ?_⟩
      have : (F.drop k)[j]? = some x := by rw [e, List.getElem?_append_left (List.getElem?_eq_some_iff.1 hj).1]; exact hj
      rwa [List.getElem?_drop] at this
    obtain ⟨x1, x2⟩ := hdrop FX c a ha hc
    obtain ⟨y1, y2⟩ := hdrop FY e b hb hd
    have hpart : ∀ (V : Array Value), (part f.type V f.offset).run P w = .ok (.agg (V.extract f.offset (f.offset + n))) w := fun V => by
      simp only [part, Sem.run_bind, run_isAgg hag, Result.andThen_ok, if_true, run_sizeOf w h3, h4, Sem.run_pure]
    have hlen : ∀ (V : Array Value) (F c a : List FV), V.size = F.length → F.drop k = c ++ a → c.length = n → (V.extract k (k + n)).size = c.length := fun V F c a hs e hl => by
      have : (F.drop k).length = c.length + a.length := by rw [e, List.length_append]
      rw [List.length_drop] at this
      rw [Array.size_extract, hs]; omega
    have hget : ∀ (V : Array Value) (j : Nat) (u : Value), (V.extract k (k + n))[j]? = some u → V[k + j]? = some u := fun V j u hj => by
      rw [Array.getElem?_extract] at hj
      split at hj
      · exact hj
      · cases hj
    have hsub := eqFields_run (P := P) (w := w) (S := S) d (xs.extract k (k + n)) (ys.extract k (k + n)) c e (hlen xs FX c a hx ha hc) (hlen ys FY e b hy hb hd) (fun j u q h5 h6 => rx (k + j) u q (hget xs j u h5) (x2 j q h6)) (fun j u q h5 h6 => ry (k + j) u q (hget ys j u h5) (y2 j q h6)) _ 0 n s4 (by simpa using hfit)
    simp only [List.drop_zero] at hsub
    have ih' := ih x1 y1
    subst h2
    simp only [bne_iff_ne, ne_eq] at h1
    simp only [Op.eqFields, h1, not_false_eq_true, if_true, Sem.run_bind, hpart, Result.andThen_ok, run_equalIn_struct w (d + 1) f.type _ _ s1 s2, hsub, eqFs_app _ c e a b hfit, ne_eq]
    cases eqFs c e with
    | true => simp [ih']
    | false => simp
section
variable {P : Program} {o : Oper} {g : Bool} {G : Env} {x y : Operand} {t t' : TypeId}
theorem op_neC {fs gs : List FV} (h1 : P.underlying t = some (.struct (P.fieldsOf t))) (h2 : P.stoodInHeld t = false) (h3 : P.eqGuardType P.depth t = false) (hc : Cmp P (P.fieldsOf t).toList 0 fs gs) (ho : o.op = .binOp .neq t x y t') (hx : Opd G g x (.fz (.agg fs))) (hy : Opd G g y (.fz (.agg gs))) : OpP P o g G (BV (!eqFs fs gs)) :=
  .of fun S m a w hg ha => by
    have r1 := (hx.rep hg (by simp [ho, Op.operands]) ha).frz
    have r2 := (hy.rep hg (by simp [ho, Op.operands]) ha).frz
    generalize hv1 : a.eval x = v1 at r1
    generalize hv2 : a.eval y = v2 at r2
    cases r1 with
    | agg cs _ l1 k1 _ =>
      cases r2 with
      | agg ds _ l2 k2 _ =>
        have := cmp_run (P := P) (w := w) (S := S) 9997 cs ds fs gs l1 l2 k1 k2 hc rfl rfl
        refine ⟨.bool (!eqFs fs gs), ?_, .fz _ _ (.lit _)⟩
        simp only [execOp, ho, hv1, hv2, Sem.run_bind, run_eqGuard_agg w _ t x y cs ds h3, Result.andThen_ok, run_neq_struct, run_equalIn_struct w 9999 t cs ds h1 h2]
        simp [this]
end
end Go.RT
/- The engine, part 44: a nil slice with its capacity told. -/
namespace Go.RT
open Go
set_option linter.all false
variable {G : Env} {H : Hp} {nx : Nat}
end Go.RT
/- The engine, part 45: strings of bytes. -/
namespace Go.RT
open Go
set_option linter.all false
abbrev encY (n : Int) : List FV := [If .u8 n]
section
variable {P : Program} {o : Oper} {g : Bool} {G : Env} {x y : Operand} {t t' : TypeId}
end
end Go.RT
/- The engine, part 46: an appended slice taken as frozen at once. -/
namespace Go.RT
open Go
set_option linter.all false
section
variable {P : Program} {C : Cx} {o : Oper} {g : Bool} {G : Env} {x y : Operand} {t t' : TypeId} {H : Hp} {nx : Nat}
theorem Mem.freeze1 {S : Nat → Prop} {m : Ids} {w : World} (hm : Mem C H nx S m w) {i sz : Nat} {rows : List (List FV)} (hi : hlook H i = some (.flat sz rows)) : Mem C ((i, none) :: H) nx (addF S m [i]) m w ∧ Le S m w (addF S m [i]) m w := by
  have hle : Le S m w (addF S m [i]) m w := ⟨fun b h => .inl h, fun _ _ => rfl, fun _ _ h => h, fun _ _ h => h⟩
  have hH : ∀ k o, hlook ((i, none) :: H) k = some o → hlook H k = some o ∧ k ≠ i := fun k o h => by
    rw [hlook_cons] at h
    by_cases e : i = k
    · rw [if_pos e] at h; cases h
    · rw [if_neg e] at h; exact ⟨h, fun e2 => e e2.symm⟩
  have hid : ∀ id, [i].contains id = true → id = i := fun id h => by simpa using h
  refine ⟨hm.step hle ⟨rfl, Nat.le_refl _⟩ rfl rfl (fun _ _ => rfl) (Nat.le_refl _) (fun _ _ _ => rfl) (fun b h => ?_) (fun k o ho => (hm.objs k o (hH k o ho).1).mono hle fun _ _ => rfl) (fun k o b ho hb => ?_)
    (fun k1 k2 o1 o2 b h1 h2 => hm.inj k1 k2 o1 o2 b (hH _ _ h1).1 (hH _ _ h2).1) (fun b h => ?_) hm.fresh (hm.nkeep hle (Nat.le_refl _) (fun _ _ _ _ _ _ h => h.of fun o h => (hH _ _ h).1) (fun _ _ _ _ _ _ _ c e _ _ _ k2 k3 => ⟨c, e, k2, k3⟩) (fun b' _ h2 h3 => ⟨rfl, ?_, fun id2 o2 h => h3 _ _ (hH _ _ h).1⟩)), hle⟩
  · rcases h with h | ⟨id, h1, h2⟩
    · exact .inl h
    · have e := hid id h1; subst e
      exact .inr ((hm.blk _ _ b hi h2).2.2.elim .inr .inl)
  · obtain ⟨h1, h2⟩ := hH k o ho
    obtain ⟨k1, k2, k3⟩ := hm.blk k o b h1 hb
    refine ⟨fun h => ?_, k2, k3⟩
    rcases h with h | ⟨id, q1, q2⟩
    · exact k1 h
    · have e := hid id q1; subst e
      exact h2 (hm.inj _ _ _ _ b h1 hi hb q2)
  · rcases h with h | ⟨id, h1, h2⟩
    · exact hm.stab b h
    · have e := hid id h1; subst e
      exact (hm.blk _ _ b hi h2).2.1
  · rintro (h | ⟨id, q1, q2⟩)
    · exact h2 h
    · have e := hid id q1; subst e
      exact h3 _ _ hi q2
end
end Go.RT
/- The engine, part 47: a slice in a cell taken as frozen. -/
namespace Go.RT
open Go
set_option linter.all false
section
variable {C : Cx} {N : Nat} {G : Env} {H : Hp} {nx : Nat} {K : Act → World → Prop}
theorem Rep.slS {w : World} {S S' : Nat → Prop} {m : Ids} {v : Value} {id sz lo len : Nat} (h : Rep w S m v (.sl id sz lo len)) : Rep w S' m v (.sl id sz lo len) := by
  cases h with
  | sl0 _ _ h => exact .sl0 _ _ h
  | sl _ _ _ _ b cap h hr hc hm => exact .sl _ _ _ _ b cap h hr hc hm
/-- the slice in a cell of an owned object, owned itself, is not written any more -/
theorem Next.freezeCell (id row col j : Nat) {s sz n : Nat} {rows rows' : List (List PV)} {r : List PV} {irows : List (List FV)} (hl : hlook H id = some (.refs s rows)) (hrow : rows[row]? = some r) (hcol : r[col]? = some (.sl j sz 0 n)) (hj : hlook H j = some (.flat sz irows)) (hn : irows.length = n)
    (hr : rows.set row (r.set col (.fz (.vals sz irows))) = rows') (h : Next C N G ((id, some (.refs s rows')) :: (j, none) :: H) nx K) : Next C N G H nx K := by
  subst hr
  intro a w hR
  obtain ⟨S, m, hm, hsl⟩ := hR.mem
  obtain ⟨q1, q2⟩ := hm.freeze1 hj
  have hne : j ≠ id := fun e => by subst e; rw [hl] at hj; cases hj
  have m2 := q1.retell (id := id) (o := .refs s rows) (o' := .refs s (rows.set row (r.set col (.fz (.vals sz irows))))) (by rw [hlook_cons, if_neg hne]; exact hl) (fun ho => by
    rcases ho with ⟨k1, k2⟩ | ⟨b, c, e, k1, k2, k3⟩
    · subst k2; simp at hrow
    · refine .inr ⟨b, c, e, k1, k2, by simpa using k3.1, fun r' hr' => ?_, fun i j' r' p hi hj' => ?_⟩
      · rcases List.mem_or_eq_of_mem_set hr' with h1 | rfl
        · exact k3.2.1 r' h1
        · simpa using k3.2.1 r (List.mem_of_getElem? hrow)
      · rw [List.getElem?_set] at hi
        by_cases h1 : row = i
        · subst h1
          have hlt : row < rows.length := (List.getElem?_eq_some_iff.1 hrow).1
          simp only [if_true, hlt] at hi
          cases hi
          rw [List.getElem?_set] at hj'
          by_cases h2 : col = j'
          · subst h2
            have hlt2 : col < r.length := (List.getElem?_eq_some_iff.1 hcol).1
            simp only [if_true, hlt2] at hj'
            cases hj'
            obtain ⟨u, hu, ho1, hp⟩ := k3.2.2 row col r _ hrow hcol
            exact ⟨u, hu, ho1, .fz _ _ (AsF.rep hm (fun b h => .inl h) (fun k b hk hb => .inr ⟨k, hk, hb⟩) (F := [j]) (.sl j sz 0 n irows irows (by simp) hj (by rw [List.drop_zero]; exact List.take_of_length_le (by omega)) hn) u hp.slS)⟩
          · rw [if_neg h2] at hj'
            exact k3.2.2 row j' r p hrow hj'
        · rw [if_neg h1] at hi
          exact k3.2.2 i j' r' p hi hj') (own_setCell (fun a b e => by cases e) hrow)
  exact h a w ⟨hR.defers, hR.size, _, _, m2, fun t q hq => (hsl t q hq).mono q2⟩
end
end Go.RT
/- The engine, part 48: a frozen slice cut to its length ('s[:n:n]'), and what is appended to it. -/
namespace Go.RT
open Go
set_option linter.all false
section
variable {P : Program} {o : Oper} {g : Bool} {G : Env} {x y : Operand} {t : TypeId} {H : Hp} {nx : Nat}
theorem op_slice_cut {e : TypeId} {sz by_ h mx : Nat} {z : Value} {rows rs : List (List FV)} {oh om : Operand} [hd : TyD P t (.slice e)] [hn : TyN P e sz by_ z] (ho : o.op = .slice t x none (some oh) (some om)) (hx : Opd G g x (.fz (.vals sz rows))) (hhi : Bnd G g (some oh) rows.length h) (hmx : Bnd G g (some om) h mx)
    (hb : g = true → mx = h ∧ h ≤ rows.length ∧ rows.take h = rs) : OpP P o g G (.wc h (.fz (.vals sz rs))) :=
  .of fun S m a w hg ha => by
    have h1 := (hx.rep hg (by simp [ho, Op.operands]) ha).frz
    obtain ⟨rfl, hle, rfl⟩ := hb hg
    have b2 := hhi.val (o := o) (a := a) (w := w) (S := S) (m := m) hg (fun x hx => by simp [ho, Op.operands, hx]) ha
    have b3 := hmx.val (o := o) (a := a) (w := w) (S := S) (m := m) hg (fun x hx => by simp [ho, Op.operands, hx]) ha
    have run : ∀ (ad : Option Addr) (cap : Nat), rows.length ≤ cap → ∃ ad', (ad' = ad ∨ ad' = ad.map (·.add (0 * sz))) ∧ (Instr.sliceAt t (.slice ad rows.length cap) none (some (a.eval oh)) (some (a.eval om))).run P w = .ok (.slice ad' mx mx) w := fun ad cap hc => by
      have e1 : (Instr.sliceBounds true rows.length cap none (some (a.eval oh)) (some (a.eval om))).run P w = .ok (0, mx, mx) w := by
        rcases b2 with ⟨c2, _⟩ | ⟨k2, c2⟩
        · simp at c2
        rcases b3 with ⟨c3, _⟩ | ⟨k3, c3⟩
        · simp at c3
        rw [Option.map_some] at c2 c3
        rw [c2, c3]
        have : mx ≤ cap := Nat.le_trans hle hc
        simp [Instr.sliceBounds, Instr.sliceBound, asIntOf, this]
      refine ⟨if mx = 0 then ad else ad.map (·.add (0 * sz)), by split <;> simp, ?_⟩
      simp [Instr.sliceAt, Instr.slice, run_underlying hd.h, e1, run_size hn]
    have hadd : ∀ b off, (some (⟨b, off, none⟩ : Addr)).map (·.add (0 * sz)) = some ⟨b, off, none⟩ := fun b off => by simp [add_none]
    generalize hv : a.eval x = v at h1
    cases h1 with
    | nil =>
      rename_i a0 cap0
      obtain ⟨ad', _, hr⟩ := run a0 cap0 (Nat.zero_le _)
      simp only [List.length_nil, Nat.le_zero] at hle hr
      subst hle
      exact ⟨_, by simp only [execOp, ho, hv, Option.map_some, Option.map_none, Sem.run_bind, hr, Result.andThen_ok, Sem.run_pure]; rfl, .wc _ _ _ _ (.fz _ _ (by rw [List.take_nil]; exact .nil _ _ _))⟩
    | vals b off cap _ _ U hS hcap hsz hU hR =>
      obtain ⟨ad', h2, hr⟩ := run (some ⟨b, off, none⟩) cap hcap
      rw [hadd] at h2
      have h3 : ad' = some ⟨b, off, none⟩ := by rcases h2 with h2 | h2 <;> exact h2
      subst h3
      refine ⟨_, by simp only [execOp, ho, hv, Option.map_some, Option.map_none, Sem.run_bind, hr, Result.andThen_ok, Sem.run_pure]; rfl, .wc _ _ _ _ (.fz _ _ ?_)⟩
      have hget : ∀ (i : Nat) (r : List FV), (rows.take mx)[i]? = some r → rows[i]? = some r := fun i r h => by
        rw [List.getElem?_take] at h
        split at h
        · exact h
        · cases h
      have e := FRep.vals (w := w) (S := S) b off mx sz (rows.take mx) U hS (by simp; omega) (fun r hr => hsz r (List.mem_of_mem_take hr)) (fun i j r f hi hj => hU i j r f (hget i r hi) hj) (fun i j r f hi hj => hR i j r f (hget i r hi) hj)
      rw [List.length_take, Nat.min_eq_left hle] at e
      exact e
theorem Mem.skip {C : Cx} {S : Nat → Prop} {m : Ids} {w : World} (hm : Mem C H nx S m w) : Mem C ((nx, none) :: H) (nx + 1) S m w :=
  { hm.keepH (H' := (nx, none) :: H) fun i o h => by
      rw [hlook_cons] at h
      split at h
      · cases h
      · exact h with fresh := fun i hi => hm.fresh i (by omega) }
theorem append_cut_core {C : Cx} {S : Nat → Prop} {m : Ids} {w : World} (hm : Mem C H nx S m w) {e : TypeId} {sz by_ : Nat} {z : Value} [hd : TyD P t (.slice e)] [hn : TyN P e sz by_ z] {ty : TypeId} {ad : Option Addr} {n : Nat} {rows rs : List (List FV)} {vx : Value}
    (hs : FRep w S (.slice ad n n) (.vals sz rows)) (hrl : rows.length = n) (hx : Src w (FRep w S) sz vx rs) (h0 : 0 < sz) (hzs : z.cells.size = sz) (hbd : (n + rs.length) * by_ ≤ 140737488355328) (hmx : n + rs.length ≤ maxLen) :
    ∃ v w' S' m', (Builtin.append_ #[t, t] ty #[.slice ad n n, vx]).run P w = .ok v w' ∧ Mem C ((nx, none) :: H) (nx + 1) S' m' w' ∧ Le S m w S' m' w' ∧ FRep w' S' v (.vals sz (rows ++ rs)) := by
  obtain ⟨i, hi, i1, i2, i3⟩ := hn.h
  have hn' := hn
  have hsrc := src_fz hs
  rcases hx with ⟨rfl, ax, cx, rfl⟩ | ⟨bx, ox, cx, news, rfl, hsz, hnl, hnews, hnr⟩
  · exact ⟨_, w, S, m, run_append_zero (P := P) (t := t) (Nat.le_refl _), hm.skip, Le.refl _ _ _, by rw [List.append_nil]; exact hs⟩
  · have h1c : ∀ u ∈ news, u.oneCell' = true := fun u hu => by
      obtain ⟨j, hj, he⟩ := List.getElem_of_mem hu
      exact (hnews j u (by simp [hj, he])).2
    have hnw : ∀ j u, news[j]? = some u → w.cell? ((⟨bx, ox, none⟩ : Addr).add j) = some u := fun j u h => (hnews j u h).1
    have fresh : ∀ (cap' : Nat) (olds : List Value) (v : Value) (w1 : World), Le S m w S m w1 → Mem C H nx S m w1 → olds.length = n * sz → (∀ (i j : Nat) (r : List FV) (p : FV), rows[i]? = some r → r[j]? = some p → ∃ u, olds[i * sz + j]? = some u ∧ u.oneCell' = true ∧ FRep w S u p) → (∀ r ∈ rows, r.length = sz) → n + rs.length ≤ cap' → cap' ≤ maxLen →
        v = .slice (some ⟨w1.heap.size, 0, none⟩) (n + rs.length) cap' →
        ∃ S' m', Mem C ((nx, none) :: H) (nx + 1) S' m' (w1.alloc (.cells (olds.toArray ++ news.toArray ++ Builtin.zeroCells z.cells (cap' - (n + rs.length))) e)) ∧ Le S m w S' m' (w1.alloc (.cells (olds.toArray ++ news.toArray ++ Builtin.zeroCells z.cells (cap' - (n + rs.length))) e)) ∧
          FRep (w1.alloc (.cells (olds.toArray ++ news.toArray ++ Builtin.zeroCells z.cells (cap' - (n + rs.length))) e)) S' v (.vals sz (rows ++ rs)) := by
      intro cap' olds v w1 hle1 hm1 hol hor hrsz hge hcm hv
      have hsize : (olds.toArray ++ news.toArray ++ Builtin.zeroCells z.cells (cap' - (n + rs.length))).size = cap' * sz := by
        simp only [Array.size_append, List.size_toArray, hol, hnl, size_zeroCells, hzs]
        rw [← Nat.add_mul, ← Nat.add_mul]; congr 1; omega
      obtain ⟨k1, k2, k3⟩ := hm1.new (olds.toArray ++ news.toArray ++ Builtin.zeroCells z.cells (cap' - (n + rs.length))) e (.flat sz (rows ++ rs)) trivial (fun w' m' hle hnew hid => .inr ⟨_, _, _, hid, hnew, by
        have hall := hle1.trans hle
        refine RowsRep.append hrsz hsz (by rw [hsize, hrl]; exact Nat.mul_le_mul_right _ hge) (fun i j r p hi hj => ?_) (fun i j r p hi hj => ?_)
        · obtain ⟨u, hu, ho1, hp⟩ := hor i j r p hi hj
          have hlt : i * sz + j < olds.length := (List.getElem?_eq_some_iff.1 hu).1
          refine ⟨u, ?_, ho1, hp.mono hall.st hall.same⟩
          rw [Array.append_assoc, Array.getElem?_append_left (by simpa using hlt)]; simpa using hu
        · obtain ⟨u, hu, hp⟩ := hnr i j r p hi hj
          have hlt : i * sz + j < news.length := (List.getElem?_eq_some_iff.1 hu).1
          refine ⟨u, ?_, h1c u (List.mem_of_getElem? hu), hp.mono hall.st hall.same⟩
          rw [Array.append_assoc, Array.getElem?_append_right (by simp [hol, hrl]), Array.getElem?_append_left (by simp [hol, hrl]; exact hlt)]
          simp [hol, hrl]; exact hu⟩)
      have hrep : Rep (w1.alloc (.cells (olds.toArray ++ news.toArray ++ Builtin.zeroCells z.cells (cap' - (n + rs.length))) e)) S (setM m nx (some w1.heap.size)) v (.sl nx sz 0 (n + rs.length)) := by
        rw [hv]
        have := Rep.sl (w := w1.alloc (.cells (olds.toArray ++ news.toArray ++ Builtin.zeroCells z.cells (cap' - (n + rs.length))) e)) (S := S) (m := setM m nx (some w1.heap.size)) nx sz 0 (n + rs.length) w1.heap.size cap' (setM_self _ _ _) ⟨_, e, _, k3, by rw [hsize]; simp⟩ hge (by omega)
        simpa using this
      have hself : hlook ((nx, some (Ob.flat sz (rows ++ rs))) :: H) nx = some (.flat sz (rows ++ rs)) := by rw [hlook_cons, if_pos rfl]
      obtain ⟨q1, q2⟩ := k1.freeze1 hself
      have hfr := AsF.rep k1 (S' := addF S (setM m nx (some w1.heap.size)) [nx]) (fun b h => .inl h) (fun k b hk hb => .inr ⟨k, hk, hb⟩) (F := [nx]) (.sl nx sz 0 _ (rows ++ rs) (rows ++ rs) (by simp) hself (by rw [List.drop_zero]; exact List.take_of_length_le (by simp [hrl])) (by simp [hrl])) v hrep
      refine ⟨_, _, q1.keepH fun k o h => ?_, (hle1.trans k2).trans q2, hfr⟩
      rw [hlook_cons] at h ⊢
      by_cases e : nx = k
      · rw [if_pos e] at h; cases h
      · rw [if_neg e] at h ⊢; rw [hlook_cons, if_neg e]; exact h
    have hdrew : Le S m w S m w.drew := ⟨fun _ h => h, fun _ _ => rfl, fun _ _ h => h, fun _ _ h => h⟩
    by_cases hm0 : rs.length = 0
    · have : rs = [] := List.eq_nil_of_length_eq_zero hm0
      subst this
      exact ⟨_, w, S, m, run_append_zero (P := P) (t := t) (Nat.le_refl _), hm.skip, Le.refl _ _ _, by rw [List.append_nil]; exact hs⟩
    have grow : ∀ (b : Addr) (olds : List Value), olds.length = n * sz → (∀ (j : Nat) (v : Value), olds[j]? = some v → w.cell? (b.add j) = some v) → (∀ r ∈ rows, r.length = sz) → (∀ (i j : Nat) (r : List FV) (p : FV), rows[i]? = some r → r[j]? = some p → ∃ u, olds[i * sz + j]? = some u ∧ u.oneCell' = true ∧ FRep w S u p) → ad = some b →
        ∃ v w' S' m', (Builtin.append_ #[t, t] ty #[.slice ad n n, .slice (some ⟨bx, ox, none⟩) rs.length cx]).run P w = .ok v w' ∧ Mem C ((nx, none) :: H) (nx + 1) S' m' w' ∧ Le S m w S' m' w' ∧ FRep w' S' v (.vals sz (rows ++ rs)) := fun b olds n1 n2 hrsz hor he => by
      subst he
      have hrun := run_append_grow (P := P) w t ty e i z hd.h hi i3 b n n olds (by rw [i1]; exact n1) n2 ⟨bx, ox, none⟩ rs.length cx news (by rw [i1]; exact hnl) hnw (by omega) (by unfold maxLen at hmx; omega) (growslice_fits (by omega) (by rw [i2]; exact hbd))
      obtain ⟨S', m', k1, k2, k3⟩ := fresh (grownCap w (n + rs.length) n e) olds _ w.drew hdrew hm.drew n1 hor hrsz (grownCap_ge w _ _ _) (grownCap_le_maxLen w _ _ _ hmx) rfl
      exact ⟨_, _, S', m', hrun, k1, k2, k3⟩
    rcases hsrc with ⟨hr0, ax, c, he⟩ | ⟨b, off, c, olds, he, hrsz, hol, holds, hor⟩
    · subst hr0
      simp only [List.length_nil] at hrl
      subst hrl
      cases he
      cases ad with
      | none =>
        have hr := run_append_nil (P := P) w t ty e i z hd.h hi i3 ⟨bx, ox, none⟩ rs.length cx news (by rw [i1]; exact hnl) hnw (by omega) (by unfold maxLen at hmx; omega) (by rw [i2]; simp only [Nat.zero_add] at hbd; omega)
        obtain ⟨S', m', k1, k2, k3⟩ := fresh (grownCap w rs.length 0 e) [] _ w.drew hdrew hm.drew (by simp) (fun i j r p hi => by simp at hi) (by simp) (by simp only [Nat.zero_add]; exact grownCap_ge w _ _ _) (grownCap_le_maxLen w _ _ _ (by simpa using hmx)) rfl
        simp only [Nat.zero_add, List.nil_append] at k1 k2 k3 ⊢
        refine ⟨_, _, S', m', hr, ?_, ?_, ?_⟩
        · simpa using k1
        · simpa using k2
        · simpa using k3
      | some b => exact grow b [] (by simp) (fun j v h => by simp at h) (by simp) (fun i j r p hi => by simp at hi) rfl
    · have h2 : n = rows.length := hrl.symm
      simp only [Value.slice.injEq] at he
      refine grow ⟨b, off, none⟩ olds (by rw [hol, hrl]) (fun j v h => (holds j v h).1) hrsz (fun i j r p hi hj => ?_) he.1
      obtain ⟨u, hu, hp⟩ := hor i j r p hi hj
      exact ⟨u, hu, (holds _ u hu).2, hp⟩
/-- 'append(s[:n:n], frozen..)': the result is frozen -/
theorem op_append_cut {e : TypeId} {sz by_ n : Nat} {z : Value} {rows rs : List (List FV)} [hd : TyD P t (.slice e)] [hn : TyN P e sz by_ z] (ho : o.op = .call { callee := .builtin .append, args := #[x, y], argTypes := #[t, t] })
    (hx : Opd G g x (.wc n (.fz (.vals sz rows)))) (hy : Opd G g y (.fz (.vals sz rs))) (hrl : rows.length = n) (h0 : Nat.blt 0 sz = true) (hzs : Nat.beq z.cells.size sz = true) (hbd : (n + rs.length) * by_ ≤ 140737488355328) (hmx : n + rs.length ≤ 4611686018427387904) :
    OpS P o g G H nx (.fz (.vals sz (rows ++ rs))) ((nx, none) :: H) (nx + 1) :=
  ⟨fun C S m a w hm hg ha K Q hK => by
    have h1 := hx.rep hg (by simp [ho, Op.operands, Call.operands]) ha
    have h2 := (hy.rep hg (by simp [ho, Op.operands, Call.operands]) ha).frz
    generalize hv : a.eval x = v0 at h1
    cases h1 with
    | wc ad len _ _ h1 =>
      have hl : len = n := by
        have := h1.frz
        cases this with
        | nil => simpa using hrl
        | vals => exact hrl
      subst hl
      obtain ⟨v, w', S', m', r1, r2, r3, r4⟩ := append_cut_core (P := P) (t := t) (ty := o.type) hm h1.frz hrl (src_fz h2) (blt_of h0) (Nat.eq_of_beq_eq_true hzs) hbd (by unfold maxLen; omega)
      refine wp_value (w' := w') (v := v) ?_ (hK _ _ _ _ r2 r3 (.fz _ _ r4))
      simp [execOp, ho, hv, resolve, invoke, builtin, r1]⟩
end
end Go.RT
/- The engine, part 49: slices at an unknown offset in cells that own them. -/
namespace Go.RT
open Go
set_option linter.all false
section
variable {P : Program} {o : Oper} {g : Bool} {G : Env} {x y : Operand} {t : TypeId} {H : Hp} {nx : Nat}
end
end Go.RT
/- Short names of steps. -/
namespace Go.RT
theorem za {α β : Prop} (k : β) (h : β → α := by intro h; exact s_reg rfl h) : α := h k
theorem zb {α β : Prop} (k : β) (h : β → α := by intro h; exact rnZ h) : α := h k
theorem zc {α β : Prop} (k : β) (h : β → α := by intro h; exact rmZ _ rfl rfl rfl h) : α := h k
theorem zd {α β : Prop} (k : β) (h : β → α := by intro h; exact raZ _ rfl rfl rfl h) : α := h k
theorem ze {α β : Prop} (k : β) (h : β → α := by intro h; exact rpZ _ rfl (op_assign rfl oC) h) : α := h k
theorem zf {α β : Prop} (k : β) (h : β → α := by intro h; exact rpZ _ rfl (op_fld_ptr (by decide) rfl (oT rfl)) h) : α := h k
theorem zg {α β : Prop} (k : β) (h : β → α := by intro h; exact Run.eff (dd := _) rfl rfl (op_store_flat rfl (oT rfl) (oT rfl) tC rfl rfl (by first | rfl | assumption) tS) h) : α := h k
theorem zh {α β : Prop} (k : β) (h : β → α := by intro h; exact rlZ _ rfl (op_load1_flat rfl (oT rfl) tH rfl) h) : α := h k
theorem zi {α β : Prop} (k : β) (h : β → α := by intro h; exact rpZ _ rfl (op_extract_fz rfl (oT rfl) rfl) h) : α := h k
theorem zj {α β : Prop} (k : β) (h : β → α := by intro h; exact rpZ _ rfl (op_add rfl (oT rfl) oC tI) h) : α := h k
theorem zk {α β : Prop} (k : β) (h : β → α := by intro h; exact rpZ _ rfl (op_len_fz rfl (by first | exact Opd.tmp _ _ rfl | exact Opd.nil _ _ (oT rfl)) (by first | exact List.length_map _ | rfl)) h) : α := h k
theorem zl {α β : Prop} (k : β) (h : β → α := by intro h; exact gmZ _ rfl rfl tG rfl rfl h) : α := h k
theorem zm {α β : Prop} (k : β) (h : β → α := by intro h; exact rlZ _ rfl (op_loadw_flat rfl (oT rfl) tH rfl) h) : α := h k
theorem zn {α β : Prop} (k : β) (h : β → α := by intro h; exact rpZ _ rfl (op_lss rfl (oT rfl) (oT rfl)) h) : α := h k
theorem zo {α β : Prop} (k : β) (h : β → α := by intro h; exact Run.eff (dd := _) rfl rfl (op_alloc rfl rfl rfl rfl) h) : α := h k
theorem zp {α β : Prop} (k : β) (h : β → α := by intro h; exact rgZ _ rfl rfl tG (op_fld_ptr (by decide) rfl (oT rfl)) h) : α := h k
theorem zq {α β : Prop} (k : β) (h : β → α := by intro h; exact Run.nil (FinD.mk (by kernel_rfl) h)) : α := h k
theorem zr {α β : Prop} (k : β) (h : β → α := by intro h; exact rpZ _ rfl (op_idx_fz _ rfl (oT rfl) (oT rfl) tF) h) : α := h k
theorem zs {α β : Prop} (k : β) (h : β → α := by intro h; exact rkZ _ rfl rfl tG (op_load1_flat rfl (oO rfl tO) tH rfl) h) : α := h k
theorem zt {α β : Prop} (k : β) (h : β → α := by intro h; exact rpZ _ rfl (op_load1_fz rfl (oT rfl) rfl) h) : α := h k
theorem zu {α β : Prop} (k : β) (h : β → α := by intro h; exact Run.eff (dd := _) rfl rfl (op_box_flat rfl (oT rfl) tC rfl) h) : α := h k
theorem zv {α β : Prop} (k : β) (h : β → α := by intro h; exact rpZ _ rfl (op_loadw_fz rfl (oT rfl) rfl) h) : α := h k
theorem zw {α β : Prop} (k : β) (h : β → α := by intro h; exact rpZ _ rfl (op_nilck_ptr rfl (oT rfl)) h) : α := h k
theorem zx {α β : Prop} (k : β) (h : β → α := by intro h; exact rpZ _ rfl (op_move rfl oC) h) : α := h k
theorem zy {α β : Prop} (k : β) (h : β → α := by intro h; exact rpZ _ rfl (op_pick_and rfl (oT rfl) (oO rfl tO)) h) : α := h k
theorem zz {α β : Prop} (k : β) (h : β → α := by intro h; exact rpZ _ rfl (op_buildSlice_fz rfl (RowsF.cons _ _ _ _ _ _ (oT rfl) tC (by rfl) (RowsF.nil _)) rfl rfl) h) : α := h k
theorem zba {α β : Prop} (k : β) (h : β → α := by intro h; exact rpZ _ rfl (op_eql rfl (oT rfl) oC) h) : α := h k
theorem zbb {α β : Prop} (k : β) (h : β → α := by intro h; exact rlZ _ rfl (op_load1_refs rfl (oT rfl) tH rfl) h) : α := h k
theorem zbc {α β : Prop} (k : β) (h : β → α := by intro h; exact rlZ _ rfl (op_loadn_flat rfl (oT rfl) tH tR tR) h) : α := h k
theorem zbd {α β : Prop} (k : β) (h : β → α := by intro h; exact rpZ _ rfl (op_pick_or rfl (oT rfl) (oO rfl tO)) h) : α := h k
theorem zbe {α β : Prop} (k : β) (h : β → α := by intro h; exact rpZ _ rfl (op_neq rfl (oT rfl) oC) h) : α := h k
theorem zbf {α β : Prop} (k : β) (h : β → α := by intro h; exact rpZ _ rfl (op_fld_fz (by decide) rfl (oT rfl) tR) h) : α := h k
theorem zbg {α β : Prop} (k : β) (h : β → α := by intro h; exact rpZ _ rfl (op_build rfl rfl rfl (FillF.nil _)) h) : α := h k
theorem zbh {α β : Prop} (k : β) (h : β → α := by intro h; exact rpZ _ rfl (op_conv rfl (oT rfl) tI) h) : α := h k
theorem zbi {α β : Prop} (k : β) (h : β → α := by intro h; exact Run.eff (dd := _) rfl rfl (op_append rfl (oT rfl) (oT rfl) rfl (by simp) rfl rfl tB tB) h) : α := h k
theorem zbj {α β : Prop} (k : β) (h : β → α := by intro h; exact rpZ _ rfl (op_not rfl (oT rfl)) h) : α := h k
theorem zbk {α β : Prop} (k : β) (h : β → α := by intro h; exact rpZ _ rfl (op_neq rfl (oT rfl) (oT rfl)) h) : α := h k
theorem zbl {α β : Prop} (k : β) (h : β → α := by intro h; exact rpZ _ rfl (op_len_sl rfl (oT rfl)) h) : α := h k
theorem zbm {α β : Prop} (k : β) (h : β → α := by intro h; exact rpZ _ rfl (op_add rfl (oT rfl) (oT rfl) tI) h) : α := h k
theorem zbn {α β : Prop} (k : β) (h : β → α := by intro h; exact rpZ _ rfl (op_build rfl rfl rfl (FillF.cons _ _ _ _ _ _ _ _ _ _ (by rfl) (oT rfl) tC (by rfl) tR (FillF.cons _ _ _ _ _ _ _ _ _ _ (by rfl) (oT rfl) tC (by rfl) tR (FillF.nil _)))) h) : α := h k
theorem zbo {α β : Prop} (k : β) (h : β → α := by intro h; exact rgZ _ rfl rfl tG (op_gtr rfl (oO rfl tO) oC) h) : α := h k
theorem zbp {α β : Prop} (k : β) (h : β → α := by intro h; exact rgZ _ rfl rfl tG (op_eql rfl (oO rfl tO) (oO rfl tO)) h) : α := h k
theorem zbq {α β : Prop} (k : β) (h : β → α := by intro h; exact rpZ _ rfl (op_lss rfl (oT rfl) oC) h) : α := h k
theorem zbr {α β : Prop} (k : β) (h : β → α := by intro h; exact Run.effW (dd := _) rfl rfl (op_store_refs rfl (oT rfl) (oT rfl) tP rfl rfl rfl tS) (by first | exact ext_call | exact tE) h) : α := h k
theorem zbs {α β : Prop} (k : β) (h : β → α := by intro h; exact rgZ _ rfl rfl tG (op_fld_fz (by decide) rfl (oO rfl tO) tR) h) : α := h k
theorem zbt {α β : Prop} (k : β) (h : β → α := by intro h; exact rgZ _ rfl rfl tG (op_load1_fz rfl (oO rfl tO) rfl) h) : α := h k
theorem zbu {α β : Prop} (k : β) (h : β → α := by intro h; exact rpZ _ rfl (op_gtr rfl (oT rfl) oC) h) : α := h k
theorem zbv {α β : Prop} (k : β) (h : β → α := by intro h; exact rpZ _ rfl (op_sub rfl (oT rfl) oC tI) h) : α := h k
theorem zbw {α β : Prop} (k : β) (h : β → α := by intro h; exact rgZ _ rfl rfl tG (op_eql rfl (oO rfl tO) oC) h) : α := h k
theorem zbx {α β : Prop} (k : β) (h : β → α := by intro h; exact rpZ _ rfl (op_eql rfl (oT rfl) (oT rfl)) h) : α := h k
theorem zby {α β : Prop} (k : β) (h : β → α := by intro h; exact rkZ _ rfl rfl tG (op_loadw_flat rfl (oT rfl) tH rfl) h) : α := h k
theorem zbz {α β : Prop} (k : β) (h : β → α := by intro h; exact rpZ _ rfl (op_gtr rfl (oT rfl) (oT rfl)) h) : α := h k
theorem zca {α β : Prop} (k : β) (h : β → α := by intro h; exact rgZ _ rfl rfl tG (op_not rfl (oO rfl tO)) h) : α := h k
theorem zcb {α β : Prop} (k : β) (h : β → α := by intro h; exact Run.eff (dd := _) rfl rfl (op_store_refs rfl (oT rfl) (oT rfl) tP rfl rfl rfl tS) h) : α := h k
theorem zcc {α β : Prop} (k : β) (h : β → α := by intro h; exact rpZ _ rfl (op_loadn_fz rfl (oT rfl) tR) h) : α := h k
theorem zcd {α β : Prop} (k : β) (h : β → α := by intro h; exact rpZ _ rfl (op_build rfl rfl rfl (FillF.cons _ _ _ _ _ _ _ _ _ _ (by rfl) (oT rfl) tC (by rfl) tR (FillF.cons _ _ _ _ _ _ _ _ _ _ (by rfl) (oT rfl) tC (by rfl) tR (FillF.cons _ _ _ _ _ _ _ _ _ _ (by rfl) (oT rfl) tC (by rfl) tR (FillF.nil _))))) h) : α := h k
theorem zce {α β : Prop} (k : β) (h : β → α := by intro h; exact rgZ _ rfl rfl tG (op_move rfl (oO rfl tO)) h) : α := h k
theorem zcf {α β : Prop} (k : β) (h : β → α := by intro h; exact rgZ _ rfl rfl tG (op_sub rfl (oO rfl tO) oC tI) h) : α := h k
theorem zcg {α β : Prop} (k : β) (h : β → α := by intro h; exact rpZ _ rfl (op_geq rfl (oT rfl) oC) h) : α := h k
theorem zch {α β : Prop} (k : β) (h : β → α := by intro h; exact Run.effW (dd := _) rfl rfl (op_store_flat rfl (oT rfl) (oT rfl) tC rfl rfl (by first | rfl | assumption) tS) tE h) : α := h k
theorem zci {α β : Prop} (k : β) (h : β → α := by intro h; exact rgZ _ rfl rfl tG (op_len_fz rfl (by first | exact Opd.topt _ _ _ rfl tO | exact Opd.nil _ _ (oO rfl tO)) (by first | exact List.length_map _ | rfl)) h) : α := h k
theorem zcj {α β : Prop} (k : β) (h : β → α := by intro h; exact rgZ _ rfl rfl tG (op_gtr rfl (oO rfl tO) (oO rfl tO)) h) : α := h k
theorem zck {α β : Prop} (k : β) (h : β → α := by intro h; exact rgZ _ rfl rfl tG (op_fld_ptr (by decide) rfl (oO rfl tO)) h) : α := h k
theorem zcl {α β : Prop} (k : β) (h : β → α := by intro h; exact rlZ _ rfl (op_loadn_refs rfl (oT rfl) tH tR tR) h) : α := h k
theorem zcm {α β : Prop} (k : β) (h : β → α := by intro h; exact rgZ _ rfl rfl tG (op_loadw_fz rfl (oT rfl) rfl) h) : α := h k
theorem zcn {α β : Prop} (k : β) (h : β → α := by intro h; exact rpZ _ rfl (op_max rfl (oT rfl) oC) h) : α := h k
theorem zco {α β : Prop} (k : β) (h : β → α := by intro h; exact rgZ _ rfl rfl tG (op_pick_and rfl (oO rfl tO) (oO rfl tO)) h) : α := h k
theorem zcp {α β : Prop} (k : β) (h : β → α := by intro h; exact rpZ _ rfl (op_eqS rfl (oT rfl) (oT rfl) (by kernel_rfl)) h) : α := h k
theorem zcq {α β : Prop} (k : β) (h : β → α := by intro h; exact rpZ _ rfl (op_neS rfl (oT rfl) (oT rfl) (by kernel_rfl)) h) : α := h k
theorem zcr {α β : Prop} (k : β) (h : β → α := by intro h; exact rgZ _ rfl rfl tG (op_leq rfl (oO rfl tO) (oO rfl tO)) h) : α := h k
theorem zcs {α β : Prop} (k : β) (h : β → α := by intro h; exact rpZ _ rfl (op_leq rfl (oT rfl) (oT rfl)) h) : α := h k
theorem zct {α β : Prop} (k : β) (h : β → α := by intro h; exact rgZ _ rfl rfl tG (op_lss rfl (oO rfl tO) oC) h) : α := h k
theorem zcu {α β : Prop} (k : β) (h : β → α := by intro h; exact rgZ _ rfl rfl tG (op_idx_fz _ rfl (oO rfl tO) (oO rfl tO) tF) h) : α := h k
theorem zcv {α β : Prop} (k : β) (h : β → α := by intro h; exact rgZ _ rfl rfl tG (op_lss rfl (oO rfl tO) (oO rfl tO)) h) : α := h k
theorem zcw {α β : Prop} (k : β) (h : β → α := by intro h; exact rpZ _ rfl (op_buildSlice_fz rfl (RowsF.cons _ _ _ _ _ _ (oT rfl) tC (by rfl) (RowsF.cons _ _ _ _ _ _ (oT rfl) tC (by rfl) (RowsF.nil _))) rfl rfl) h) : α := h k
theorem zcx {α β : Prop} (k : β) (h : β → α := by intro h; exact Run.eff (dd := _) rfl rfl (op_buildSlice_own rfl (RowsF.nil _) rfl rfl rfl) h) : α := h k
theorem zcy {α β : Prop} (k : β) (h : β → α := by intro h; exact Run.eff (dd := _) rfl rfl (op_append rfl (oT rfl) (oT rfl) rfl rfl rfl rfl tB tB) h) : α := h k
theorem zcz {α β : Prop} (k : β) (h : β → α := by intro h; exact Run.eff (dd := _) rfl rfl (op_buildSlice_own rfl (RowsF.cons _ _ _ _ _ _ (oT rfl) tC (by rfl) (RowsF.nil _)) rfl rfl rfl) h) : α := h k
theorem zda {α β : Prop} (k : β) (h : β → α := by intro h; exact rgZ _ rfl rfl tG (op_pick_or rfl (oO rfl tO) (oO rfl tO)) h) : α := h k
theorem zdb {α β : Prop} (k : β) (h : β → α := by intro h; exact Run.effW (dd := _) rfl rfl (op_append rfl (oT rfl) (oT rfl) rfl (by simp) rfl rfl tB tB) (by first | exact ext_call | exact tE) h) : α := h k
theorem zdc {α β : Prop} (k : β) (h : β → α := by intro h; exact rpZ _ rfl (op_build rfl rfl rfl (FillF.cons _ _ _ _ _ _ _ _ _ _ (by rfl) oC tC (by rfl) tR (FillF.cons _ _ _ _ _ _ _ _ _ _ (by rfl) (oT rfl) tC (by rfl) tR (FillF.cons _ _ _ _ _ _ _ _ _ _ (by rfl) oC tC (by rfl) tR (FillF.nil _))))) h) : α := h k
theorem zdd {α β : Prop} (k : β) (h : β → α := by intro h; exact Run.eff (dd := _) rfl rfl (op_append_own0 rfl (oT rfl) (oT rfl) rfl (by first | rfl | simp) rfl (by first | rfl | simp) rfl rfl tB tB) h) : α := h k
theorem wG {α : Prop} (h : α := by repeat (first | exact trivial | refine ⟨⟨_, rfl, .inl ⟨rfl, rfl⟩⟩, ?_⟩ | refine ⟨⟨_, rfl, .inl ⟨slEq rfl tN, rfl⟩⟩, ?_⟩ | refine ⟨⟨_, rfl, .inl ⟨ivEq tX, rfl⟩⟩, ?_⟩)) : α := h
theorem wF {α : Prop} (h : α := by repeat (first | exact trivial | refine ⟨⟨_, rfl, .inl ⟨rfl, rfl⟩⟩, ?_⟩ | refine ⟨⟨_, rfl, .inl ⟨slEq rfl tN, rfl⟩⟩, ?_⟩ | refine ⟨⟨_, rfl, .inl ⟨ivEq tX, rfl⟩⟩, ?_⟩ | refine ⟨⟨_, rfl, .inr ⟨_, rfl, tW⟩⟩, ?_⟩)) : α := h
theorem wS {α : Prop} (h : α := by exact ent_same rfl rfl rfl tL) : α := h
theorem wN {α : Prop} (h : α := by intro _ h; simp at h) : α := h
theorem wK {α β : Prop} (hC : β) (h : β → α := by intro hC; first | exact keeps0 hC _ | exact keepsN hC _ rfl) : α := h hC
theorem wO {α β : Prop} (hC : β) (h : β → α := by intro hC; first | exact s_o1 hC rfl tV | exact s_o2 hC rfl tV tV | exact s_o3 hC rfl tV tV tV | exact s_o4 hC rfl tV tV tV tV | exact s_out0 hC rfl | exact s_outO hC rfl rfl rfl) : α := h hC
end Go.RT
/- The types and functions of the translation, as the rules ask for them. Written by tab.py. -/
namespace Go.Proofs.YtkofbemgpeagbaaGreat
open Go Go.RT Go.Proofs
set_option linter.unusedVariables false
theorem mixed : Tryz.prog.follows .mixedOrders = true := Tryz.checked.mixed
theorem tyn_of {P : Program} {t : TypeId} {s b : Nat} {z : Value} (h : (P.info? t).map (fun i => (i.size, i.bytes, i.zero)) = some (s, b, some z)) : TyN P t s b z := by
  obtain ⟨i, hi, he⟩ := Option.map_eq_some_iff.1 h
  simp only [Prod.mk.injEq] at he
  exact ⟨i, hi, he.1, he.2.1, he.2.2⟩
instance : TyA Tryz.prog 1 false := ⟨_, Tryz.underlying1, rfl⟩
instance : TyN Tryz.prog 1 1 8 (.nilFunc) := tyn_of (by kernel_rfl)
instance : TyD Tryz.prog 2 (.int .i64) := ⟨Tryz.underlying2⟩
instance : TyA Tryz.prog 2 false := ⟨_, Tryz.underlying2, rfl⟩
instance : TyN Tryz.prog 2 1 8 (.int .i64 0) := tyn_of (by kernel_rfl)
instance : TyD Tryz.prog 3 (.int .i64) := ⟨Tryz.underlying3⟩
instance : TyA Tryz.prog 3 false := ⟨_, Tryz.underlying3, rfl⟩
instance : TyN Tryz.prog 3 1 8 (.int .i64 0) := tyn_of (by kernel_rfl)
instance : TyD Tryz.prog 4 (.bool) := ⟨Tryz.underlying4⟩
instance : TyA Tryz.prog 4 false := ⟨_, Tryz.underlying4, rfl⟩
instance : TyN Tryz.prog 4 1 1 (.bool false) := tyn_of (by kernel_rfl)
instance : TyD Tryz.prog 5 (.int .u8) := ⟨Tryz.underlying5⟩
instance : TyA Tryz.prog 5 false := ⟨_, Tryz.underlying5, rfl⟩
instance : TyN Tryz.prog 5 1 1 (.int .u8 0) := tyn_of (by kernel_rfl)
instance : TyD Tryz.prog 9 (.string) := ⟨Tryz.underlying9⟩
instance : TyA Tryz.prog 9 false := ⟨_, Tryz.underlying9, rfl⟩
instance : TyN Tryz.prog 9 1 16 (.string ⟨#[]⟩) := tyn_of (by kernel_rfl)
instance : TyD Tryz.prog 12 (.int .u64) := ⟨Tryz.underlying12⟩
instance : TyA Tryz.prog 12 false := ⟨_, Tryz.underlying12, rfl⟩
instance : TyN Tryz.prog 12 1 8 (.int .u64 0) := tyn_of (by kernel_rfl)
instance : TyA Tryz.prog 13 true := ⟨_, Tryz.underlying13, rfl⟩
instance : TyN Tryz.prog 13 2 24 (.agg #[.string ⟨#[]⟩, .int .u64 0]) := tyn_of (by kernel_rfl)
instance : TyF Tryz.prog 13 0 0 9 := ⟨_, _, Tryz.underlying13, rfl, rfl, rfl⟩
instance : TyF Tryz.prog 13 1 1 12 := ⟨_, _, Tryz.underlying13, rfl, rfl, rfl⟩
instance : TyB Tryz.prog 13 [(0, 1), (1, 1)] := ⟨_, Tryz.underlying13, fun w => by kernel_rfl⟩
instance : TyD Tryz.prog 21 (.int .i32) := ⟨Tryz.underlying21⟩
instance : TyA Tryz.prog 21 false := ⟨_, Tryz.underlying21, rfl⟩
instance : TyN Tryz.prog 21 1 4 (.int .i32 0) := tyn_of (by kernel_rfl)
instance : TyD Tryz.prog 22 (.int .u32) := ⟨Tryz.underlying22⟩
instance : TyA Tryz.prog 22 false := ⟨_, Tryz.underlying22, rfl⟩
instance : TyN Tryz.prog 22 1 4 (.int .u32 0) := tyn_of (by kernel_rfl)
instance : TyD Tryz.prog 23 (.slice 87) := ⟨Tryz.underlying23⟩
instance : TyA Tryz.prog 23 false := ⟨_, Tryz.underlying23, rfl⟩
instance : TyN Tryz.prog 23 1 24 (.slice none 0 0) := tyn_of (by kernel_rfl)
instance : TyD Tryz.prog 24 (.slice 41) := ⟨Tryz.underlying24⟩
instance : TyA Tryz.prog 24 false := ⟨_, Tryz.underlying24, rfl⟩
instance : TyN Tryz.prog 24 1 24 (.slice none 0 0) := tyn_of (by kernel_rfl)
instance : TyD Tryz.prog 25 (.int .u32) := ⟨Tryz.underlying25⟩
instance : TyA Tryz.prog 25 false := ⟨_, Tryz.underlying25, rfl⟩
instance : TyN Tryz.prog 25 1 4 (.int .u32 0) := tyn_of (by kernel_rfl)
instance : TyA Tryz.prog 26 true := ⟨_, Tryz.underlying26, rfl⟩
instance : TyN Tryz.prog 26 2 16 (.agg #[.int .u32 0, .int .i64 0]) := tyn_of (by kernel_rfl)
instance : TyF Tryz.prog 26 0 0 25 := ⟨_, _, Tryz.underlying26, rfl, rfl, rfl⟩
instance : TyF Tryz.prog 26 1 1 3 := ⟨_, _, Tryz.underlying26, rfl, rfl, rfl⟩
instance : EqS Tryz.prog 26 2 := ⟨by kernel_rfl, by kernel_rfl, by kernel_rfl, by kernel_rfl⟩
instance : TyB Tryz.prog 26 [(0, 1), (1, 1)] := ⟨_, Tryz.underlying26, fun w => by kernel_rfl⟩
instance : TyA Tryz.prog 27 true := ⟨_, Tryz.underlying27, rfl⟩
instance : TyN Tryz.prog 27 2 16 (.agg #[.int .u32 0, .int .i64 0]) := tyn_of (by kernel_rfl)
instance : TyF Tryz.prog 27 0 0 25 := ⟨_, _, Tryz.underlying27, rfl, rfl, rfl⟩
instance : TyF Tryz.prog 27 1 1 3 := ⟨_, _, Tryz.underlying27, rfl, rfl, rfl⟩
instance : EqS Tryz.prog 27 2 := ⟨by kernel_rfl, by kernel_rfl, by kernel_rfl, by kernel_rfl⟩
instance : TyB Tryz.prog 27 [(0, 1), (1, 1)] := ⟨_, Tryz.underlying27, fun w => by kernel_rfl⟩
instance : TyA Tryz.prog 28 false := ⟨_, Tryz.underlying28, rfl⟩
instance : TyN Tryz.prog 28 1 8 (.nilFunc) := tyn_of (by kernel_rfl)
instance : TyA Tryz.prog 29 false := ⟨_, Tryz.underlying29, rfl⟩
instance : TyN Tryz.prog 29 1 8 (.nilFunc) := tyn_of (by kernel_rfl)
instance : TyD Tryz.prog 30 (.slice 106) := ⟨Tryz.underlying30⟩
instance : TyA Tryz.prog 30 false := ⟨_, Tryz.underlying30, rfl⟩
instance : TyN Tryz.prog 30 1 24 (.slice none 0 0) := tyn_of (by kernel_rfl)
instance : TyD Tryz.prog 31 (.slice 22) := ⟨Tryz.underlying31⟩
instance : TyA Tryz.prog 31 false := ⟨_, Tryz.underlying31, rfl⟩
instance : TyN Tryz.prog 31 1 24 (.slice none 0 0) := tyn_of (by kernel_rfl)
instance : TyD Tryz.prog 32 (.slice 69) := ⟨Tryz.underlying32⟩
instance : TyA Tryz.prog 32 false := ⟨_, Tryz.underlying32, rfl⟩
instance : TyN Tryz.prog 32 1 24 (.slice none 0 0) := tyn_of (by kernel_rfl)
instance : TyA Tryz.prog 33 true := ⟨_, Tryz.underlying33, rfl⟩
instance : TyN Tryz.prog 33 6 128 (.agg #[.int .u32 0, .slice none 0 0, .slice none 0 0, .slice none 0 0, .slice none 0 0, .slice none 0 0]) := tyn_of (by kernel_rfl)
instance : TyF Tryz.prog 33 0 0 22 := ⟨_, _, Tryz.underlying33, rfl, rfl, rfl⟩
instance : TyF Tryz.prog 33 1 1 23 := ⟨_, _, Tryz.underlying33, rfl, rfl, rfl⟩
instance : TyF Tryz.prog 33 2 2 30 := ⟨_, _, Tryz.underlying33, rfl, rfl, rfl⟩
instance : TyF Tryz.prog 33 3 3 30 := ⟨_, _, Tryz.underlying33, rfl, rfl, rfl⟩
instance : TyF Tryz.prog 33 4 4 31 := ⟨_, _, Tryz.underlying33, rfl, rfl, rfl⟩
instance : TyF Tryz.prog 33 5 5 32 := ⟨_, _, Tryz.underlying33, rfl, rfl, rfl⟩
instance : TyB Tryz.prog 33 [(0, 1), (1, 1), (2, 1), (3, 1), (4, 1), (5, 1)] := ⟨_, Tryz.underlying33, fun w => by kernel_rfl⟩
instance : TyA Tryz.prog 34 true := ⟨_, Tryz.underlying34, rfl⟩
instance : TyN Tryz.prog 34 6 128 (.agg #[.int .u32 0, .slice none 0 0, .slice none 0 0, .slice none 0 0, .slice none 0 0, .slice none 0 0]) := tyn_of (by kernel_rfl)
instance : TyF Tryz.prog 34 0 0 22 := ⟨_, _, Tryz.underlying34, rfl, rfl, rfl⟩
instance : TyF Tryz.prog 34 1 1 23 := ⟨_, _, Tryz.underlying34, rfl, rfl, rfl⟩
instance : TyF Tryz.prog 34 2 2 30 := ⟨_, _, Tryz.underlying34, rfl, rfl, rfl⟩
instance : TyF Tryz.prog 34 3 3 30 := ⟨_, _, Tryz.underlying34, rfl, rfl, rfl⟩
instance : TyF Tryz.prog 34 4 4 31 := ⟨_, _, Tryz.underlying34, rfl, rfl, rfl⟩
instance : TyF Tryz.prog 34 5 5 32 := ⟨_, _, Tryz.underlying34, rfl, rfl, rfl⟩
instance : TyB Tryz.prog 34 [(0, 1), (1, 1), (2, 1), (3, 1), (4, 1), (5, 1)] := ⟨_, Tryz.underlying34, fun w => by kernel_rfl⟩
instance : TyD Tryz.prog 35 (.int .i64) := ⟨Tryz.underlying35⟩
instance : TyA Tryz.prog 35 false := ⟨_, Tryz.underlying35, rfl⟩
instance : TyN Tryz.prog 35 1 8 (.int .i64 0) := tyn_of (by kernel_rfl)
instance : TyA Tryz.prog 37 false := ⟨_, Tryz.underlying37, rfl⟩
instance : TyN Tryz.prog 37 1 8 (.nilFunc) := tyn_of (by kernel_rfl)
instance : TyA Tryz.prog 38 false := ⟨_, Tryz.underlying38, rfl⟩
instance : TyN Tryz.prog 38 1 8 (.nilFunc) := tyn_of (by kernel_rfl)
instance : TyD Tryz.prog 39 (.slice 5) := ⟨Tryz.underlying39⟩
instance : TyA Tryz.prog 39 false := ⟨_, Tryz.underlying39, rfl⟩
instance : TyN Tryz.prog 39 1 24 (.slice none 0 0) := tyn_of (by kernel_rfl)
instance : TyA Tryz.prog 40 true := ⟨_, Tryz.underlying40, rfl⟩
instance : TyN Tryz.prog 40 4 64 (.agg #[.int .i64 0, .int .u32 0, .slice none 0 0, .slice none 0 0]) := tyn_of (by kernel_rfl)
instance : TyF Tryz.prog 40 0 0 3 := ⟨_, _, Tryz.underlying40, rfl, rfl, rfl⟩
instance : TyF Tryz.prog 40 1 1 22 := ⟨_, _, Tryz.underlying40, rfl, rfl, rfl⟩
instance : TyF Tryz.prog 40 2 2 39 := ⟨_, _, Tryz.underlying40, rfl, rfl, rfl⟩
instance : TyF Tryz.prog 40 3 3 32 := ⟨_, _, Tryz.underlying40, rfl, rfl, rfl⟩
instance : TyB Tryz.prog 40 [(0, 1), (1, 1), (2, 1), (3, 1)] := ⟨_, Tryz.underlying40, fun w => by kernel_rfl⟩
instance : TyA Tryz.prog 41 true := ⟨_, Tryz.underlying41, rfl⟩
instance : TyN Tryz.prog 41 4 64 (.agg #[.int .i64 0, .int .u32 0, .slice none 0 0, .slice none 0 0]) := tyn_of (by kernel_rfl)
instance : TyF Tryz.prog 41 0 0 3 := ⟨_, _, Tryz.underlying41, rfl, rfl, rfl⟩
instance : TyF Tryz.prog 41 1 1 22 := ⟨_, _, Tryz.underlying41, rfl, rfl, rfl⟩
instance : TyF Tryz.prog 41 2 2 39 := ⟨_, _, Tryz.underlying41, rfl, rfl, rfl⟩
instance : TyF Tryz.prog 41 3 3 32 := ⟨_, _, Tryz.underlying41, rfl, rfl, rfl⟩
instance : TyB Tryz.prog 41 [(0, 1), (1, 1), (2, 1), (3, 1)] := ⟨_, Tryz.underlying41, fun w => by kernel_rfl⟩
instance : TyD Tryz.prog 42 (.slice 104) := ⟨Tryz.underlying42⟩
instance : TyA Tryz.prog 42 false := ⟨_, Tryz.underlying42, rfl⟩
instance : TyN Tryz.prog 42 1 24 (.slice none 0 0) := tyn_of (by kernel_rfl)
instance : TyA Tryz.prog 44 false := ⟨_, Tryz.underlying44, rfl⟩
instance : TyN Tryz.prog 44 1 8 (.nilFunc) := tyn_of (by kernel_rfl)
instance : TyA Tryz.prog 45 false := ⟨_, Tryz.underlying45, rfl⟩
instance : TyN Tryz.prog 45 1 8 (.nilFunc) := tyn_of (by kernel_rfl)
instance : TyA Tryz.prog 46 false := ⟨_, Tryz.underlying46, rfl⟩
instance : TyN Tryz.prog 46 1 8 (.nilFunc) := tyn_of (by kernel_rfl)
instance : TyD Tryz.prog 47 (.slice 81) := ⟨Tryz.underlying47⟩
instance : TyA Tryz.prog 47 false := ⟨_, Tryz.underlying47, rfl⟩
instance : TyN Tryz.prog 47 1 24 (.slice none 0 0) := tyn_of (by kernel_rfl)
instance : TyA Tryz.prog 48 false := ⟨_, Tryz.underlying48, rfl⟩
instance : TyN Tryz.prog 48 1 8 (.nilFunc) := tyn_of (by kernel_rfl)
instance : TyA Tryz.prog 49 false := ⟨_, Tryz.underlying49, rfl⟩
instance : TyN Tryz.prog 49 1 8 (.nilFunc) := tyn_of (by kernel_rfl)
instance : TyD Tryz.prog 50 (.slice 83) := ⟨Tryz.underlying50⟩
instance : TyA Tryz.prog 50 false := ⟨_, Tryz.underlying50, rfl⟩
instance : TyN Tryz.prog 50 1 24 (.slice none 0 0) := tyn_of (by kernel_rfl)
instance : TyA Tryz.prog 51 false := ⟨_, Tryz.underlying51, rfl⟩
instance : TyN Tryz.prog 51 1 8 (.nilFunc) := tyn_of (by kernel_rfl)
instance : TyA Tryz.prog 52 false := ⟨_, Tryz.underlying52, rfl⟩
instance : TyN Tryz.prog 52 1 8 (.nilFunc) := tyn_of (by kernel_rfl)
instance : TyD Tryz.prog 53 (.slice 164) := ⟨Tryz.underlying53⟩
instance : TyA Tryz.prog 53 false := ⟨_, Tryz.underlying53, rfl⟩
instance : TyN Tryz.prog 53 1 24 (.slice none 0 0) := tyn_of (by kernel_rfl)
instance : TyD Tryz.prog 54 (.slice 115) := ⟨Tryz.underlying54⟩
instance : TyA Tryz.prog 54 false := ⟨_, Tryz.underlying54, rfl⟩
instance : TyN Tryz.prog 54 1 24 (.slice none 0 0) := tyn_of (by kernel_rfl)
instance : TyA Tryz.prog 55 true := ⟨_, Tryz.underlying55, rfl⟩
instance : TyN Tryz.prog 55 3 40 (.agg #[.int .i64 0, .int .i64 0, .slice none 0 0]) := tyn_of (by kernel_rfl)
instance : TyF Tryz.prog 55 0 0 3 := ⟨_, _, Tryz.underlying55, rfl, rfl, rfl⟩
instance : TyF Tryz.prog 55 1 1 3 := ⟨_, _, Tryz.underlying55, rfl, rfl, rfl⟩
instance : TyF Tryz.prog 55 2 2 54 := ⟨_, _, Tryz.underlying55, rfl, rfl, rfl⟩
instance : TyB Tryz.prog 55 [(0, 1), (1, 1), (2, 1)] := ⟨_, Tryz.underlying55, fun w => by kernel_rfl⟩
instance : TyA Tryz.prog 56 true := ⟨_, Tryz.underlying56, rfl⟩
instance : TyN Tryz.prog 56 3 40 (.agg #[.int .i64 0, .int .i64 0, .slice none 0 0]) := tyn_of (by kernel_rfl)
instance : TyF Tryz.prog 56 0 0 3 := ⟨_, _, Tryz.underlying56, rfl, rfl, rfl⟩
instance : TyF Tryz.prog 56 1 1 3 := ⟨_, _, Tryz.underlying56, rfl, rfl, rfl⟩
instance : TyF Tryz.prog 56 2 2 54 := ⟨_, _, Tryz.underlying56, rfl, rfl, rfl⟩
instance : TyB Tryz.prog 56 [(0, 1), (1, 1), (2, 1)] := ⟨_, Tryz.underlying56, fun w => by kernel_rfl⟩
instance : TyA Tryz.prog 57 false := ⟨_, Tryz.underlying57, rfl⟩
instance : TyN Tryz.prog 57 1 8 (.nilFunc) := tyn_of (by kernel_rfl)
instance : TyD Tryz.prog 58 (.pointer 119) := ⟨Tryz.underlying58⟩
instance : TyA Tryz.prog 58 false := ⟨_, Tryz.underlying58, rfl⟩
instance : TyN Tryz.prog 58 1 8 (.pointer none) := tyn_of (by kernel_rfl)
instance : TyA Tryz.prog 60 false := ⟨_, Tryz.underlying60, rfl⟩
instance : TyN Tryz.prog 60 1 8 (.nilFunc) := tyn_of (by kernel_rfl)
instance : TyD Tryz.prog 61 (.slice 3) := ⟨Tryz.underlying61⟩
instance : TyA Tryz.prog 61 false := ⟨_, Tryz.underlying61, rfl⟩
instance : TyN Tryz.prog 61 1 24 (.slice none 0 0) := tyn_of (by kernel_rfl)
instance : TyD Tryz.prog 62 (.slice 61) := ⟨Tryz.underlying62⟩
instance : TyA Tryz.prog 62 false := ⟨_, Tryz.underlying62, rfl⟩
instance : TyN Tryz.prog 62 1 24 (.slice none 0 0) := tyn_of (by kernel_rfl)
instance : TyA Tryz.prog 63 true := ⟨_, Tryz.underlying63, rfl⟩
instance : TyN Tryz.prog 63 4 80 (.agg #[.int .i64 0, .slice none 0 0, .slice none 0 0, .slice none 0 0]) := tyn_of (by kernel_rfl)
instance : TyF Tryz.prog 63 0 0 3 := ⟨_, _, Tryz.underlying63, rfl, rfl, rfl⟩
instance : TyF Tryz.prog 63 1 1 61 := ⟨_, _, Tryz.underlying63, rfl, rfl, rfl⟩
instance : TyF Tryz.prog 63 2 2 62 := ⟨_, _, Tryz.underlying63, rfl, rfl, rfl⟩
instance : TyF Tryz.prog 63 3 3 62 := ⟨_, _, Tryz.underlying63, rfl, rfl, rfl⟩
instance : TyB Tryz.prog 63 [(0, 1), (1, 1), (2, 1), (3, 1)] := ⟨_, Tryz.underlying63, fun w => by kernel_rfl⟩
instance : TyA Tryz.prog 64 true := ⟨_, Tryz.underlying64, rfl⟩
instance : TyN Tryz.prog 64 4 80 (.agg #[.int .i64 0, .slice none 0 0, .slice none 0 0, .slice none 0 0]) := tyn_of (by kernel_rfl)
instance : TyF Tryz.prog 64 0 0 3 := ⟨_, _, Tryz.underlying64, rfl, rfl, rfl⟩
instance : TyF Tryz.prog 64 1 1 61 := ⟨_, _, Tryz.underlying64, rfl, rfl, rfl⟩
instance : TyF Tryz.prog 64 2 2 62 := ⟨_, _, Tryz.underlying64, rfl, rfl, rfl⟩
instance : TyF Tryz.prog 64 3 3 62 := ⟨_, _, Tryz.underlying64, rfl, rfl, rfl⟩
instance : TyB Tryz.prog 64 [(0, 1), (1, 1), (2, 1), (3, 1)] := ⟨_, Tryz.underlying64, fun w => by kernel_rfl⟩
instance : TyA Tryz.prog 66 false := ⟨_, Tryz.underlying66, rfl⟩
instance : TyN Tryz.prog 66 1 8 (.nilFunc) := tyn_of (by kernel_rfl)
instance : TyA Tryz.prog 67 false := ⟨_, Tryz.underlying67, rfl⟩
instance : TyN Tryz.prog 67 1 8 (.nilFunc) := tyn_of (by kernel_rfl)
instance : TyA Tryz.prog 68 true := ⟨_, Tryz.underlying68, rfl⟩
instance : TyN Tryz.prog 68 4 48 (.agg #[.int .u32 0, .int .i64 0, .bool false, .slice none 0 0]) := tyn_of (by kernel_rfl)
instance : TyF Tryz.prog 68 0 0 27 := ⟨_, _, Tryz.underlying68, rfl, rfl, rfl⟩
instance : TyF Tryz.prog 68 1 2 4 := ⟨_, _, Tryz.underlying68, rfl, rfl, rfl⟩
instance : TyF Tryz.prog 68 2 3 31 := ⟨_, _, Tryz.underlying68, rfl, rfl, rfl⟩
instance : TyB Tryz.prog 68 [(0, 2), (2, 1), (3, 1)] := ⟨_, Tryz.underlying68, fun w => by kernel_rfl⟩
instance : TyA Tryz.prog 69 true := ⟨_, Tryz.underlying69, rfl⟩
instance : TyN Tryz.prog 69 4 48 (.agg #[.int .u32 0, .int .i64 0, .bool false, .slice none 0 0]) := tyn_of (by kernel_rfl)
instance : TyF Tryz.prog 69 0 0 27 := ⟨_, _, Tryz.underlying69, rfl, rfl, rfl⟩
instance : TyF Tryz.prog 69 1 2 4 := ⟨_, _, Tryz.underlying69, rfl, rfl, rfl⟩
instance : TyF Tryz.prog 69 2 3 31 := ⟨_, _, Tryz.underlying69, rfl, rfl, rfl⟩
instance : TyB Tryz.prog 69 [(0, 2), (2, 1), (3, 1)] := ⟨_, Tryz.underlying69, fun w => by kernel_rfl⟩
instance : TyA Tryz.prog 70 false := ⟨_, Tryz.underlying70, rfl⟩
instance : TyN Tryz.prog 70 1 8 (.nilFunc) := tyn_of (by kernel_rfl)
instance : TyA Tryz.prog 71 false := ⟨_, Tryz.underlying71, rfl⟩
instance : TyN Tryz.prog 71 1 8 (.nilFunc) := tyn_of (by kernel_rfl)
instance : TyA Tryz.prog 72 false := ⟨_, Tryz.underlying72, rfl⟩
instance : TyN Tryz.prog 72 1 8 (.nilFunc) := tyn_of (by kernel_rfl)
instance : TyA Tryz.prog 73 false := ⟨_, Tryz.underlying73, rfl⟩
instance : TyN Tryz.prog 73 1 8 (.nilFunc) := tyn_of (by kernel_rfl)
instance : TyA Tryz.prog 74 true := ⟨_, Tryz.underlying74, rfl⟩
instance : TyN Tryz.prog 74 4 32 (.agg #[.int .i64 0, .int .u32 0, .int .i64 0, .int .i64 0]) := tyn_of (by kernel_rfl)
instance : TyF Tryz.prog 74 0 0 3 := ⟨_, _, Tryz.underlying74, rfl, rfl, rfl⟩
instance : TyF Tryz.prog 74 1 1 27 := ⟨_, _, Tryz.underlying74, rfl, rfl, rfl⟩
instance : TyF Tryz.prog 74 2 3 3 := ⟨_, _, Tryz.underlying74, rfl, rfl, rfl⟩
instance : TyB Tryz.prog 74 [(0, 1), (1, 2), (3, 1)] := ⟨_, Tryz.underlying74, fun w => by kernel_rfl⟩
instance : TyA Tryz.prog 75 true := ⟨_, Tryz.underlying75, rfl⟩
instance : TyN Tryz.prog 75 4 32 (.agg #[.int .i64 0, .int .u32 0, .int .i64 0, .int .i64 0]) := tyn_of (by kernel_rfl)
instance : TyF Tryz.prog 75 0 0 3 := ⟨_, _, Tryz.underlying75, rfl, rfl, rfl⟩
instance : TyF Tryz.prog 75 1 1 27 := ⟨_, _, Tryz.underlying75, rfl, rfl, rfl⟩
instance : TyF Tryz.prog 75 2 3 3 := ⟨_, _, Tryz.underlying75, rfl, rfl, rfl⟩
instance : TyB Tryz.prog 75 [(0, 1), (1, 2), (3, 1)] := ⟨_, Tryz.underlying75, fun w => by kernel_rfl⟩
instance : TyA Tryz.prog 77 false := ⟨_, Tryz.underlying77, rfl⟩
instance : TyN Tryz.prog 77 1 8 (.nilFunc) := tyn_of (by kernel_rfl)
instance : TyA Tryz.prog 78 false := ⟨_, Tryz.underlying78, rfl⟩
instance : TyN Tryz.prog 78 1 8 (.nilFunc) := tyn_of (by kernel_rfl)
instance : TyA Tryz.prog 79 false := ⟨_, Tryz.underlying79, rfl⟩
instance : TyN Tryz.prog 79 1 8 (.nilFunc) := tyn_of (by kernel_rfl)
instance : TyA Tryz.prog 80 true := ⟨_, Tryz.underlying80, rfl⟩
instance : TyN Tryz.prog 80 2 32 (.agg #[.int .i64 0, .slice none 0 0]) := tyn_of (by kernel_rfl)
instance : TyF Tryz.prog 80 0 0 3 := ⟨_, _, Tryz.underlying80, rfl, rfl, rfl⟩
instance : TyF Tryz.prog 80 1 1 50 := ⟨_, _, Tryz.underlying80, rfl, rfl, rfl⟩
instance : TyB Tryz.prog 80 [(0, 1), (1, 1)] := ⟨_, Tryz.underlying80, fun w => by kernel_rfl⟩
instance : TyA Tryz.prog 81 true := ⟨_, Tryz.underlying81, rfl⟩
instance : TyN Tryz.prog 81 2 32 (.agg #[.int .i64 0, .slice none 0 0]) := tyn_of (by kernel_rfl)
instance : TyF Tryz.prog 81 0 0 3 := ⟨_, _, Tryz.underlying81, rfl, rfl, rfl⟩
instance : TyF Tryz.prog 81 1 1 50 := ⟨_, _, Tryz.underlying81, rfl, rfl, rfl⟩
instance : TyB Tryz.prog 81 [(0, 1), (1, 1)] := ⟨_, Tryz.underlying81, fun w => by kernel_rfl⟩
instance : TyA Tryz.prog 82 true := ⟨_, Tryz.underlying82, rfl⟩
instance : TyN Tryz.prog 82 2 16 (.agg #[.int .u32 0, .int .i64 0]) := tyn_of (by kernel_rfl)
instance : TyF Tryz.prog 82 0 0 22 := ⟨_, _, Tryz.underlying82, rfl, rfl, rfl⟩
instance : TyF Tryz.prog 82 1 1 3 := ⟨_, _, Tryz.underlying82, rfl, rfl, rfl⟩
instance : EqS Tryz.prog 82 2 := ⟨by kernel_rfl, by kernel_rfl, by kernel_rfl, by kernel_rfl⟩
instance : TyB Tryz.prog 82 [(0, 1), (1, 1)] := ⟨_, Tryz.underlying82, fun w => by kernel_rfl⟩
instance : TyA Tryz.prog 83 true := ⟨_, Tryz.underlying83, rfl⟩
instance : TyN Tryz.prog 83 2 16 (.agg #[.int .u32 0, .int .i64 0]) := tyn_of (by kernel_rfl)
instance : TyF Tryz.prog 83 0 0 22 := ⟨_, _, Tryz.underlying83, rfl, rfl, rfl⟩
instance : TyF Tryz.prog 83 1 1 3 := ⟨_, _, Tryz.underlying83, rfl, rfl, rfl⟩
instance : EqS Tryz.prog 83 2 := ⟨by kernel_rfl, by kernel_rfl, by kernel_rfl, by kernel_rfl⟩
instance : TyB Tryz.prog 83 [(0, 1), (1, 1)] := ⟨_, Tryz.underlying83, fun w => by kernel_rfl⟩
instance : TyA Tryz.prog 84 false := ⟨_, Tryz.underlying84, rfl⟩
instance : TyN Tryz.prog 84 1 8 (.nilFunc) := tyn_of (by kernel_rfl)
instance : TyA Tryz.prog 85 false := ⟨_, Tryz.underlying85, rfl⟩
instance : TyN Tryz.prog 85 1 8 (.nilFunc) := tyn_of (by kernel_rfl)
instance : TyA Tryz.prog 86 true := ⟨_, Tryz.underlying86, rfl⟩
instance : TyN Tryz.prog 86 2 16 (.agg #[.int .i64 0, .int .i64 0]) := tyn_of (by kernel_rfl)
instance : TyF Tryz.prog 86 0 0 3 := ⟨_, _, Tryz.underlying86, rfl, rfl, rfl⟩
instance : TyF Tryz.prog 86 1 1 3 := ⟨_, _, Tryz.underlying86, rfl, rfl, rfl⟩
instance : EqS Tryz.prog 86 2 := ⟨by kernel_rfl, by kernel_rfl, by kernel_rfl, by kernel_rfl⟩
instance : TyB Tryz.prog 86 [(0, 1), (1, 1)] := ⟨_, Tryz.underlying86, fun w => by kernel_rfl⟩
instance : TyA Tryz.prog 87 true := ⟨_, Tryz.underlying87, rfl⟩
instance : TyN Tryz.prog 87 2 16 (.agg #[.int .i64 0, .int .i64 0]) := tyn_of (by kernel_rfl)
instance : TyF Tryz.prog 87 0 0 3 := ⟨_, _, Tryz.underlying87, rfl, rfl, rfl⟩
instance : TyF Tryz.prog 87 1 1 3 := ⟨_, _, Tryz.underlying87, rfl, rfl, rfl⟩
instance : EqS Tryz.prog 87 2 := ⟨by kernel_rfl, by kernel_rfl, by kernel_rfl, by kernel_rfl⟩
instance : TyB Tryz.prog 87 [(0, 1), (1, 1)] := ⟨_, Tryz.underlying87, fun w => by kernel_rfl⟩
instance : TyA Tryz.prog 88 false := ⟨_, Tryz.underlying88, rfl⟩
instance : TyN Tryz.prog 88 1 8 (.nilFunc) := tyn_of (by kernel_rfl)
instance : TyA Tryz.prog 89 false := ⟨_, Tryz.underlying89, rfl⟩
instance : TyN Tryz.prog 89 1 8 (.nilFunc) := tyn_of (by kernel_rfl)
instance : TyA Tryz.prog 90 false := ⟨_, Tryz.underlying90, rfl⟩
instance : TyN Tryz.prog 90 1 8 (.nilFunc) := tyn_of (by kernel_rfl)
instance : TyA Tryz.prog 91 false := ⟨_, Tryz.underlying91, rfl⟩
instance : TyN Tryz.prog 91 1 8 (.nilFunc) := tyn_of (by kernel_rfl)
instance : TyD Tryz.prog 92 (.pointer 95) := ⟨Tryz.underlying92⟩
instance : TyA Tryz.prog 92 false := ⟨_, Tryz.underlying92, rfl⟩
instance : TyN Tryz.prog 92 1 8 (.pointer none) := tyn_of (by kernel_rfl)
instance : TyA Tryz.prog 93 false := ⟨_, Tryz.underlying93, rfl⟩
instance : TyN Tryz.prog 93 1 8 (.nilFunc) := tyn_of (by kernel_rfl)
instance : TyA Tryz.prog 94 true := ⟨_, Tryz.underlying94, rfl⟩
instance : TyN Tryz.prog 94 7 152 (.agg #[.int .u32 0, .slice none 0 0, .slice none 0 0, .slice none 0 0, .slice none 0 0, .slice none 0 0, .slice none 0 0]) := tyn_of (by kernel_rfl)
instance : TyF Tryz.prog 94 0 0 34 := ⟨_, _, Tryz.underlying94, rfl, rfl, rfl⟩
instance : TyF Tryz.prog 94 1 6 42 := ⟨_, _, Tryz.underlying94, rfl, rfl, rfl⟩
instance : TyB Tryz.prog 94 [(0, 6), (6, 1)] := ⟨_, Tryz.underlying94, fun w => by kernel_rfl⟩
instance : TyA Tryz.prog 95 true := ⟨_, Tryz.underlying95, rfl⟩
instance : TyN Tryz.prog 95 7 152 (.agg #[.int .u32 0, .slice none 0 0, .slice none 0 0, .slice none 0 0, .slice none 0 0, .slice none 0 0, .slice none 0 0]) := tyn_of (by kernel_rfl)
instance : TyF Tryz.prog 95 0 0 34 := ⟨_, _, Tryz.underlying95, rfl, rfl, rfl⟩
instance : TyF Tryz.prog 95 1 6 42 := ⟨_, _, Tryz.underlying95, rfl, rfl, rfl⟩
instance : TyB Tryz.prog 95 [(0, 6), (6, 1)] := ⟨_, Tryz.underlying95, fun w => by kernel_rfl⟩
instance : TyA Tryz.prog 96 false := ⟨_, Tryz.underlying96, rfl⟩
instance : TyN Tryz.prog 96 1 8 (.nilFunc) := tyn_of (by kernel_rfl)
instance : TyA Tryz.prog 97 false := ⟨_, Tryz.underlying97, rfl⟩
instance : TyN Tryz.prog 97 1 8 (.nilFunc) := tyn_of (by kernel_rfl)
instance : TyA Tryz.prog 98 false := ⟨_, Tryz.underlying98, rfl⟩
instance : TyN Tryz.prog 98 1 8 (.nilFunc) := tyn_of (by kernel_rfl)
instance : TyA Tryz.prog 99 false := ⟨_, Tryz.underlying99, rfl⟩
instance : TyN Tryz.prog 99 1 8 (.nilFunc) := tyn_of (by kernel_rfl)
instance : TyA Tryz.prog 100 false := ⟨_, Tryz.underlying100, rfl⟩
instance : TyN Tryz.prog 100 1 8 (.nilFunc) := tyn_of (by kernel_rfl)
instance : TyA Tryz.prog 101 false := ⟨_, Tryz.underlying101, rfl⟩
instance : TyN Tryz.prog 101 1 8 (.nilFunc) := tyn_of (by kernel_rfl)
instance : TyA Tryz.prog 102 false := ⟨_, Tryz.underlying102, rfl⟩
instance : TyN Tryz.prog 102 1 8 (.nilFunc) := tyn_of (by kernel_rfl)
instance : TyA Tryz.prog 103 true := ⟨_, Tryz.underlying103, rfl⟩
instance : TyN Tryz.prog 103 2 32 (.agg #[.int .u32 0, .slice none 0 0]) := tyn_of (by kernel_rfl)
instance : TyF Tryz.prog 103 0 0 22 := ⟨_, _, Tryz.underlying103, rfl, rfl, rfl⟩
instance : TyF Tryz.prog 103 1 1 39 := ⟨_, _, Tryz.underlying103, rfl, rfl, rfl⟩
instance : TyB Tryz.prog 103 [(0, 1), (1, 1)] := ⟨_, Tryz.underlying103, fun w => by kernel_rfl⟩
instance : TyA Tryz.prog 104 true := ⟨_, Tryz.underlying104, rfl⟩
instance : TyN Tryz.prog 104 2 32 (.agg #[.int .u32 0, .slice none 0 0]) := tyn_of (by kernel_rfl)
instance : TyF Tryz.prog 104 0 0 22 := ⟨_, _, Tryz.underlying104, rfl, rfl, rfl⟩
instance : TyF Tryz.prog 104 1 1 39 := ⟨_, _, Tryz.underlying104, rfl, rfl, rfl⟩
instance : TyB Tryz.prog 104 [(0, 1), (1, 1)] := ⟨_, Tryz.underlying104, fun w => by kernel_rfl⟩
instance : TyA Tryz.prog 105 true := ⟨_, Tryz.underlying105, rfl⟩
instance : TyN Tryz.prog 105 4 32 (.agg #[.int .u32 0, .int .i64 0, .int .u32 0, .int .i64 0]) := tyn_of (by kernel_rfl)
instance : TyF Tryz.prog 105 0 0 27 := ⟨_, _, Tryz.underlying105, rfl, rfl, rfl⟩
instance : TyF Tryz.prog 105 1 2 22 := ⟨_, _, Tryz.underlying105, rfl, rfl, rfl⟩
instance : TyF Tryz.prog 105 2 3 3 := ⟨_, _, Tryz.underlying105, rfl, rfl, rfl⟩
instance : TyB Tryz.prog 105 [(0, 2), (2, 1), (3, 1)] := ⟨_, Tryz.underlying105, fun w => by kernel_rfl⟩
instance : TyA Tryz.prog 106 true := ⟨_, Tryz.underlying106, rfl⟩
instance : TyN Tryz.prog 106 4 32 (.agg #[.int .u32 0, .int .i64 0, .int .u32 0, .int .i64 0]) := tyn_of (by kernel_rfl)
instance : TyF Tryz.prog 106 0 0 27 := ⟨_, _, Tryz.underlying106, rfl, rfl, rfl⟩
instance : TyF Tryz.prog 106 1 2 22 := ⟨_, _, Tryz.underlying106, rfl, rfl, rfl⟩
instance : TyF Tryz.prog 106 2 3 3 := ⟨_, _, Tryz.underlying106, rfl, rfl, rfl⟩
instance : TyB Tryz.prog 106 [(0, 2), (2, 1), (3, 1)] := ⟨_, Tryz.underlying106, fun w => by kernel_rfl⟩
instance : TyA Tryz.prog 107 false := ⟨_, Tryz.underlying107, rfl⟩
instance : TyN Tryz.prog 107 1 8 (.nilFunc) := tyn_of (by kernel_rfl)
instance : TyA Tryz.prog 108 false := ⟨_, Tryz.underlying108, rfl⟩
instance : TyN Tryz.prog 108 1 8 (.nilFunc) := tyn_of (by kernel_rfl)
instance : TyA Tryz.prog 110 false := ⟨_, Tryz.underlying110, rfl⟩
instance : TyN Tryz.prog 110 1 8 (.nilFunc) := tyn_of (by kernel_rfl)
instance : TyA Tryz.prog 112 false := ⟨_, Tryz.underlying112, rfl⟩
instance : TyN Tryz.prog 112 1 8 (.nilFunc) := tyn_of (by kernel_rfl)
instance : TyA Tryz.prog 113 false := ⟨_, Tryz.underlying113, rfl⟩
instance : TyN Tryz.prog 113 1 8 (.nilFunc) := tyn_of (by kernel_rfl)
instance : TyA Tryz.prog 114 true := ⟨_, Tryz.underlying114, rfl⟩
instance : TyN Tryz.prog 114 3 24 (.agg #[.int .i64 0, .int .i64 0, .int .i64 0]) := tyn_of (by kernel_rfl)
instance : TyF Tryz.prog 114 0 0 3 := ⟨_, _, Tryz.underlying114, rfl, rfl, rfl⟩
instance : TyF Tryz.prog 114 1 1 3 := ⟨_, _, Tryz.underlying114, rfl, rfl, rfl⟩
instance : TyF Tryz.prog 114 2 2 3 := ⟨_, _, Tryz.underlying114, rfl, rfl, rfl⟩
instance : EqS Tryz.prog 114 3 := ⟨by kernel_rfl, by kernel_rfl, by kernel_rfl, by kernel_rfl⟩
instance : TyB Tryz.prog 114 [(0, 1), (1, 1), (2, 1)] := ⟨_, Tryz.underlying114, fun w => by kernel_rfl⟩
instance : TyA Tryz.prog 115 true := ⟨_, Tryz.underlying115, rfl⟩
instance : TyN Tryz.prog 115 3 24 (.agg #[.int .i64 0, .int .i64 0, .int .i64 0]) := tyn_of (by kernel_rfl)
instance : TyF Tryz.prog 115 0 0 3 := ⟨_, _, Tryz.underlying115, rfl, rfl, rfl⟩
instance : TyF Tryz.prog 115 1 1 3 := ⟨_, _, Tryz.underlying115, rfl, rfl, rfl⟩
instance : TyF Tryz.prog 115 2 2 3 := ⟨_, _, Tryz.underlying115, rfl, rfl, rfl⟩
instance : EqS Tryz.prog 115 3 := ⟨by kernel_rfl, by kernel_rfl, by kernel_rfl, by kernel_rfl⟩
instance : TyB Tryz.prog 115 [(0, 1), (1, 1), (2, 1)] := ⟨_, Tryz.underlying115, fun w => by kernel_rfl⟩
instance : TyD Tryz.prog 116 (.slice 34) := ⟨Tryz.underlying116⟩
instance : TyA Tryz.prog 116 false := ⟨_, Tryz.underlying116, rfl⟩
instance : TyN Tryz.prog 116 1 24 (.slice none 0 0) := tyn_of (by kernel_rfl)
instance : TyD Tryz.prog 117 (.slice 126) := ⟨Tryz.underlying117⟩
instance : TyA Tryz.prog 117 false := ⟨_, Tryz.underlying117, rfl⟩
instance : TyN Tryz.prog 117 1 24 (.slice none 0 0) := tyn_of (by kernel_rfl)
instance : TyA Tryz.prog 118 true := ⟨_, Tryz.underlying118, rfl⟩
instance : TyN Tryz.prog 118 2 48 (.agg #[.slice none 0 0, .slice none 0 0]) := tyn_of (by kernel_rfl)
instance : TyF Tryz.prog 118 0 0 116 := ⟨_, _, Tryz.underlying118, rfl, rfl, rfl⟩
instance : TyF Tryz.prog 118 1 1 117 := ⟨_, _, Tryz.underlying118, rfl, rfl, rfl⟩
instance : TyB Tryz.prog 118 [(0, 1), (1, 1)] := ⟨_, Tryz.underlying118, fun w => by kernel_rfl⟩
instance : TyA Tryz.prog 119 true := ⟨_, Tryz.underlying119, rfl⟩
instance : TyN Tryz.prog 119 2 48 (.agg #[.slice none 0 0, .slice none 0 0]) := tyn_of (by kernel_rfl)
instance : TyF Tryz.prog 119 0 0 116 := ⟨_, _, Tryz.underlying119, rfl, rfl, rfl⟩
instance : TyF Tryz.prog 119 1 1 117 := ⟨_, _, Tryz.underlying119, rfl, rfl, rfl⟩
instance : TyB Tryz.prog 119 [(0, 1), (1, 1)] := ⟨_, Tryz.underlying119, fun w => by kernel_rfl⟩
instance : TyA Tryz.prog 120 false := ⟨_, Tryz.underlying120, rfl⟩
instance : TyN Tryz.prog 120 1 8 (.nilFunc) := tyn_of (by kernel_rfl)
instance : TyA Tryz.prog 121 false := ⟨_, Tryz.underlying121, rfl⟩
instance : TyN Tryz.prog 121 1 8 (.nilFunc) := tyn_of (by kernel_rfl)
instance : TyA Tryz.prog 122 false := ⟨_, Tryz.underlying122, rfl⟩
instance : TyN Tryz.prog 122 1 8 (.nilFunc) := tyn_of (by kernel_rfl)
instance : TyA Tryz.prog 123 false := ⟨_, Tryz.underlying123, rfl⟩
instance : TyN Tryz.prog 123 1 8 (.nilFunc) := tyn_of (by kernel_rfl)
instance : TyD Tryz.prog 124 (.int .u64) := ⟨Tryz.underlying124⟩
instance : TyA Tryz.prog 124 false := ⟨_, Tryz.underlying124, rfl⟩
instance : TyN Tryz.prog 124 1 8 (.int .u64 0) := tyn_of (by kernel_rfl)
instance : TyA Tryz.prog 125 true := ⟨_, Tryz.underlying125, rfl⟩
instance : TyN Tryz.prog 125 3 40 (.agg #[.int .i64 0, .int .i64 0, .slice none 0 0]) := tyn_of (by kernel_rfl)
instance : TyF Tryz.prog 125 0 0 3 := ⟨_, _, Tryz.underlying125, rfl, rfl, rfl⟩
instance : TyF Tryz.prog 125 1 1 3 := ⟨_, _, Tryz.underlying125, rfl, rfl, rfl⟩
instance : TyF Tryz.prog 125 2 2 39 := ⟨_, _, Tryz.underlying125, rfl, rfl, rfl⟩
instance : TyB Tryz.prog 125 [(0, 1), (1, 1), (2, 1)] := ⟨_, Tryz.underlying125, fun w => by kernel_rfl⟩
instance : TyA Tryz.prog 126 true := ⟨_, Tryz.underlying126, rfl⟩
instance : TyN Tryz.prog 126 3 40 (.agg #[.int .i64 0, .int .i64 0, .slice none 0 0]) := tyn_of (by kernel_rfl)
instance : TyF Tryz.prog 126 0 0 3 := ⟨_, _, Tryz.underlying126, rfl, rfl, rfl⟩
instance : TyF Tryz.prog 126 1 1 3 := ⟨_, _, Tryz.underlying126, rfl, rfl, rfl⟩
instance : TyF Tryz.prog 126 2 2 39 := ⟨_, _, Tryz.underlying126, rfl, rfl, rfl⟩
instance : TyB Tryz.prog 126 [(0, 1), (1, 1), (2, 1)] := ⟨_, Tryz.underlying126, fun w => by kernel_rfl⟩
instance : TyD Tryz.prog 127 (.slice 47) := ⟨Tryz.underlying127⟩
instance : TyA Tryz.prog 127 false := ⟨_, Tryz.underlying127, rfl⟩
instance : TyN Tryz.prog 127 1 24 (.slice none 0 0) := tyn_of (by kernel_rfl)
instance : TyA Tryz.prog 128 true := ⟨_, Tryz.underlying128, rfl⟩
instance : TyN Tryz.prog 128 5 48 (.agg #[.int .u32 0, .int .u32 0, .int .u32 0, .int .i64 0, .slice none 0 0]) := tyn_of (by kernel_rfl)
instance : TyF Tryz.prog 128 0 0 25 := ⟨_, _, Tryz.underlying128, rfl, rfl, rfl⟩
instance : TyF Tryz.prog 128 1 1 25 := ⟨_, _, Tryz.underlying128, rfl, rfl, rfl⟩
instance : TyF Tryz.prog 128 2 2 22 := ⟨_, _, Tryz.underlying128, rfl, rfl, rfl⟩
instance : TyF Tryz.prog 128 3 3 3 := ⟨_, _, Tryz.underlying128, rfl, rfl, rfl⟩
instance : TyF Tryz.prog 128 4 4 61 := ⟨_, _, Tryz.underlying128, rfl, rfl, rfl⟩
instance : TyB Tryz.prog 128 [(0, 1), (1, 1), (2, 1), (3, 1), (4, 1)] := ⟨_, Tryz.underlying128, fun w => by kernel_rfl⟩
instance : TyA Tryz.prog 129 true := ⟨_, Tryz.underlying129, rfl⟩
instance : TyN Tryz.prog 129 5 48 (.agg #[.int .u32 0, .int .u32 0, .int .u32 0, .int .i64 0, .slice none 0 0]) := tyn_of (by kernel_rfl)
instance : TyF Tryz.prog 129 0 0 25 := ⟨_, _, Tryz.underlying129, rfl, rfl, rfl⟩
instance : TyF Tryz.prog 129 1 1 25 := ⟨_, _, Tryz.underlying129, rfl, rfl, rfl⟩
instance : TyF Tryz.prog 129 2 2 22 := ⟨_, _, Tryz.underlying129, rfl, rfl, rfl⟩
instance : TyF Tryz.prog 129 3 3 3 := ⟨_, _, Tryz.underlying129, rfl, rfl, rfl⟩
instance : TyF Tryz.prog 129 4 4 61 := ⟨_, _, Tryz.underlying129, rfl, rfl, rfl⟩
instance : TyB Tryz.prog 129 [(0, 1), (1, 1), (2, 1), (3, 1), (4, 1)] := ⟨_, Tryz.underlying129, fun w => by kernel_rfl⟩
instance : TyA Tryz.prog 131 false := ⟨_, Tryz.underlying131, rfl⟩
instance : TyN Tryz.prog 131 1 8 (.nilFunc) := tyn_of (by kernel_rfl)
instance : TyA Tryz.prog 132 false := ⟨_, Tryz.underlying132, rfl⟩
instance : TyN Tryz.prog 132 1 8 (.nilFunc) := tyn_of (by kernel_rfl)
instance : TyA Tryz.prog 133 false := ⟨_, Tryz.underlying133, rfl⟩
instance : TyN Tryz.prog 133 1 8 (.nilFunc) := tyn_of (by kernel_rfl)
instance : TyD Tryz.prog 134 (.int .u64) := ⟨Tryz.underlying134⟩
instance : TyA Tryz.prog 134 false := ⟨_, Tryz.underlying134, rfl⟩
instance : TyN Tryz.prog 134 1 8 (.int .u64 0) := tyn_of (by kernel_rfl)
instance : TyA Tryz.prog 135 false := ⟨_, Tryz.underlying135, rfl⟩
instance : TyN Tryz.prog 135 1 8 (.nilFunc) := tyn_of (by kernel_rfl)
instance : TyA Tryz.prog 136 false := ⟨_, Tryz.underlying136, rfl⟩
instance : TyN Tryz.prog 136 1 8 (.nilFunc) := tyn_of (by kernel_rfl)
instance : TyA Tryz.prog 137 false := ⟨_, Tryz.underlying137, rfl⟩
instance : TyN Tryz.prog 137 1 8 (.nilFunc) := tyn_of (by kernel_rfl)
instance : TyA Tryz.prog 138 false := ⟨_, Tryz.underlying138, rfl⟩
instance : TyN Tryz.prog 138 1 8 (.nilFunc) := tyn_of (by kernel_rfl)
instance : TyA Tryz.prog 139 false := ⟨_, Tryz.underlying139, rfl⟩
instance : TyN Tryz.prog 139 1 8 (.nilFunc) := tyn_of (by kernel_rfl)
instance : TyA Tryz.prog 140 false := ⟨_, Tryz.underlying140, rfl⟩
instance : TyN Tryz.prog 140 1 8 (.nilFunc) := tyn_of (by kernel_rfl)
instance : TyA Tryz.prog 141 false := ⟨_, Tryz.underlying141, rfl⟩
instance : TyN Tryz.prog 141 1 8 (.nilFunc) := tyn_of (by kernel_rfl)
instance : TyA Tryz.prog 142 false := ⟨_, Tryz.underlying142, rfl⟩
instance : TyN Tryz.prog 142 1 8 (.nilFunc) := tyn_of (by kernel_rfl)
instance : TyA Tryz.prog 144 false := ⟨_, Tryz.underlying144, rfl⟩
instance : TyN Tryz.prog 144 1 8 (.nilFunc) := tyn_of (by kernel_rfl)
instance : TyA Tryz.prog 145 false := ⟨_, Tryz.underlying145, rfl⟩
instance : TyN Tryz.prog 145 1 8 (.nilFunc) := tyn_of (by kernel_rfl)
instance : TyA Tryz.prog 147 false := ⟨_, Tryz.underlying147, rfl⟩
instance : TyN Tryz.prog 147 1 8 (.nilFunc) := tyn_of (by kernel_rfl)
instance : TyA Tryz.prog 149 false := ⟨_, Tryz.underlying149, rfl⟩
instance : TyN Tryz.prog 149 1 8 (.nilFunc) := tyn_of (by kernel_rfl)
instance : TyA Tryz.prog 150 false := ⟨_, Tryz.underlying150, rfl⟩
instance : TyN Tryz.prog 150 1 8 (.nilFunc) := tyn_of (by kernel_rfl)
instance : TyA Tryz.prog 151 false := ⟨_, Tryz.underlying151, rfl⟩
instance : TyN Tryz.prog 151 1 8 (.nilFunc) := tyn_of (by kernel_rfl)
instance : TyA Tryz.prog 152 false := ⟨_, Tryz.underlying152, rfl⟩
instance : TyN Tryz.prog 152 1 8 (.nilFunc) := tyn_of (by kernel_rfl)
instance : TyA Tryz.prog 153 false := ⟨_, Tryz.underlying153, rfl⟩
instance : TyN Tryz.prog 153 1 8 (.nilFunc) := tyn_of (by kernel_rfl)
instance : TyA Tryz.prog 155 false := ⟨_, Tryz.underlying155, rfl⟩
instance : TyN Tryz.prog 155 1 8 (.nilFunc) := tyn_of (by kernel_rfl)
instance : TyA Tryz.prog 156 false := ⟨_, Tryz.underlying156, rfl⟩
instance : TyN Tryz.prog 156 1 8 (.nilFunc) := tyn_of (by kernel_rfl)
instance : TyA Tryz.prog 157 false := ⟨_, Tryz.underlying157, rfl⟩
instance : TyN Tryz.prog 157 1 8 (.nilFunc) := tyn_of (by kernel_rfl)
instance : TyA Tryz.prog 158 false := ⟨_, Tryz.underlying158, rfl⟩
instance : TyN Tryz.prog 158 1 8 (.nilFunc) := tyn_of (by kernel_rfl)
instance : TyA Tryz.prog 159 false := ⟨_, Tryz.underlying159, rfl⟩
instance : TyN Tryz.prog 159 1 8 (.nilFunc) := tyn_of (by kernel_rfl)
instance : TyA Tryz.prog 160 false := ⟨_, Tryz.underlying160, rfl⟩
instance : TyN Tryz.prog 160 1 8 (.nilFunc) := tyn_of (by kernel_rfl)
instance : TyA Tryz.prog 161 false := ⟨_, Tryz.underlying161, rfl⟩
instance : TyN Tryz.prog 161 1 8 (.nilFunc) := tyn_of (by kernel_rfl)
instance : TyA Tryz.prog 162 false := ⟨_, Tryz.underlying162, rfl⟩
instance : TyN Tryz.prog 162 1 8 (.nilFunc) := tyn_of (by kernel_rfl)
instance : TyA Tryz.prog 163 true := ⟨_, Tryz.underlying163, rfl⟩
instance : TyN Tryz.prog 163 2 2 (.agg #[.int .u8 0, .int .u8 0]) := tyn_of (by kernel_rfl)
instance : TyF Tryz.prog 163 0 0 5 := ⟨_, _, Tryz.underlying163, rfl, rfl, rfl⟩
instance : TyF Tryz.prog 163 1 1 5 := ⟨_, _, Tryz.underlying163, rfl, rfl, rfl⟩
instance : EqS Tryz.prog 163 2 := ⟨by kernel_rfl, by kernel_rfl, by kernel_rfl, by kernel_rfl⟩
instance : TyB Tryz.prog 163 [(0, 1), (1, 1)] := ⟨_, Tryz.underlying163, fun w => by kernel_rfl⟩
instance : TyA Tryz.prog 164 true := ⟨_, Tryz.underlying164, rfl⟩
instance : TyN Tryz.prog 164 2 2 (.agg #[.int .u8 0, .int .u8 0]) := tyn_of (by kernel_rfl)
instance : TyF Tryz.prog 164 0 0 5 := ⟨_, _, Tryz.underlying164, rfl, rfl, rfl⟩
instance : TyF Tryz.prog 164 1 1 5 := ⟨_, _, Tryz.underlying164, rfl, rfl, rfl⟩
instance : EqS Tryz.prog 164 2 := ⟨by kernel_rfl, by kernel_rfl, by kernel_rfl, by kernel_rfl⟩
instance : TyB Tryz.prog 164 [(0, 1), (1, 1)] := ⟨_, Tryz.underlying164, fun w => by kernel_rfl⟩
instance : TyA Tryz.prog 165 false := ⟨_, Tryz.underlying165, rfl⟩
instance : TyN Tryz.prog 165 1 8 (.nilFunc) := tyn_of (by kernel_rfl)
instance : TyA Tryz.prog 166 false := ⟨_, Tryz.underlying166, rfl⟩
instance : TyN Tryz.prog 166 1 8 (.nilFunc) := tyn_of (by kernel_rfl)
instance : TyA Tryz.prog 167 false := ⟨_, Tryz.underlying167, rfl⟩
instance : TyN Tryz.prog 167 1 8 (.nilFunc) := tyn_of (by kernel_rfl)
instance : TyA Tryz.prog 168 false := ⟨_, Tryz.underlying168, rfl⟩
instance : TyN Tryz.prog 168 1 8 (.nilFunc) := tyn_of (by kernel_rfl)
instance : TyA Tryz.prog 170 false := ⟨_, Tryz.underlying170, rfl⟩
instance : TyN Tryz.prog 170 1 8 (.nilFunc) := tyn_of (by kernel_rfl)
instance : TyA Tryz.prog 171 false := ⟨_, Tryz.underlying171, rfl⟩
instance : TyN Tryz.prog 171 1 8 (.nilFunc) := tyn_of (by kernel_rfl)
instance : TyA Tryz.prog 172 false := ⟨_, Tryz.underlying172, rfl⟩
instance : TyN Tryz.prog 172 1 8 (.nilFunc) := tyn_of (by kernel_rfl)
instance : TyA Tryz.prog 173 false := ⟨_, Tryz.underlying173, rfl⟩
instance : TyN Tryz.prog 173 1 8 (.nilFunc) := tyn_of (by kernel_rfl)
instance : TyA Tryz.prog 174 false := ⟨_, Tryz.underlying174, rfl⟩
instance : TyN Tryz.prog 174 1 8 (.nilFunc) := tyn_of (by kernel_rfl)
instance : TyA Tryz.prog 175 false := ⟨_, Tryz.underlying175, rfl⟩
instance : TyN Tryz.prog 175 1 8 (.nilFunc) := tyn_of (by kernel_rfl)
instance : TyA Tryz.prog 176 false := ⟨_, Tryz.underlying176, rfl⟩
instance : TyN Tryz.prog 176 1 8 (.nilFunc) := tyn_of (by kernel_rfl)
instance : TyA Tryz.prog 177 false := ⟨_, Tryz.underlying177, rfl⟩
instance : TyN Tryz.prog 177 1 8 (.nilFunc) := tyn_of (by kernel_rfl)
instance : TyA Tryz.prog 178 false := ⟨_, Tryz.underlying178, rfl⟩
instance : TyN Tryz.prog 178 1 8 (.nilFunc) := tyn_of (by kernel_rfl)
instance : TyA Tryz.prog 180 false := ⟨_, Tryz.underlying180, rfl⟩
instance : TyN Tryz.prog 180 1 8 (.nilFunc) := tyn_of (by kernel_rfl)
instance : TyA Tryz.prog 181 false := ⟨_, Tryz.underlying181, rfl⟩
instance : TyN Tryz.prog 181 1 8 (.nilFunc) := tyn_of (by kernel_rfl)
instance : TyA Tryz.prog 182 false := ⟨_, Tryz.underlying182, rfl⟩
instance : TyN Tryz.prog 182 1 8 (.nilFunc) := tyn_of (by kernel_rfl)
instance : TyA Tryz.prog 183 false := ⟨_, Tryz.underlying183, rfl⟩
instance : TyN Tryz.prog 183 1 8 (.nilFunc) := tyn_of (by kernel_rfl)
instance : TyA Tryz.prog 184 false := ⟨_, Tryz.underlying184, rfl⟩
instance : TyN Tryz.prog 184 1 8 (.nilFunc) := tyn_of (by kernel_rfl)
instance : TyA Tryz.prog 185 false := ⟨_, Tryz.underlying185, rfl⟩
instance : TyN Tryz.prog 185 1 8 (.nilFunc) := tyn_of (by kernel_rfl)
instance : TyA Tryz.prog 186 false := ⟨_, Tryz.underlying186, rfl⟩
instance : TyN Tryz.prog 186 1 8 (.nilFunc) := tyn_of (by kernel_rfl)
instance : TyD Tryz.prog 187 (.int .i64) := ⟨Tryz.underlying187⟩
instance : TyA Tryz.prog 187 false := ⟨_, Tryz.underlying187, rfl⟩
instance : TyN Tryz.prog 187 1 8 (.int .i64 0) := tyn_of (by kernel_rfl)
instance : TyA Tryz.prog 189 false := ⟨_, Tryz.underlying189, rfl⟩
instance : TyN Tryz.prog 189 1 8 (.nilFunc) := tyn_of (by kernel_rfl)
instance : TyA Tryz.prog 190 false := ⟨_, Tryz.underlying190, rfl⟩
instance : TyN Tryz.prog 190 1 8 (.nilFunc) := tyn_of (by kernel_rfl)
instance : TyA Tryz.prog 191 false := ⟨_, Tryz.underlying191, rfl⟩
instance : TyN Tryz.prog 191 1 8 (.nilFunc) := tyn_of (by kernel_rfl)
instance : TyA Tryz.prog 192 false := ⟨_, Tryz.underlying192, rfl⟩
instance : TyN Tryz.prog 192 1 8 (.nilFunc) := tyn_of (by kernel_rfl)
instance : TyA Tryz.prog 193 false := ⟨_, Tryz.underlying193, rfl⟩
instance : TyN Tryz.prog 193 1 8 (.nilFunc) := tyn_of (by kernel_rfl)
instance : TyA Tryz.prog 194 false := ⟨_, Tryz.underlying194, rfl⟩
instance : TyN Tryz.prog 194 1 8 (.nilFunc) := tyn_of (by kernel_rfl)
instance : TyA Tryz.prog 195 false := ⟨_, Tryz.underlying195, rfl⟩
instance : TyN Tryz.prog 195 1 8 (.nilFunc) := tyn_of (by kernel_rfl)
instance : TyA Tryz.prog 196 false := ⟨_, Tryz.underlying196, rfl⟩
instance : TyN Tryz.prog 196 1 8 (.nilFunc) := tyn_of (by kernel_rfl)
instance : TyA Tryz.prog 197 false := ⟨_, Tryz.underlying197, rfl⟩
instance : TyN Tryz.prog 197 1 8 (.nilFunc) := tyn_of (by kernel_rfl)
instance : TyD Tryz.prog 198 (.slice 81) := ⟨Tryz.underlying198⟩
instance : TyA Tryz.prog 198 false := ⟨_, Tryz.underlying198, rfl⟩
instance : TyN Tryz.prog 198 1 24 (.slice none 0 0) := tyn_of (by kernel_rfl)
instance : TyA Tryz.prog 199 false := ⟨_, Tryz.underlying199, rfl⟩
instance : TyN Tryz.prog 199 1 8 (.nilFunc) := tyn_of (by kernel_rfl)
instance : TyD Tryz.prog 200 (.slice 39) := ⟨Tryz.underlying200⟩
instance : TyA Tryz.prog 200 false := ⟨_, Tryz.underlying200, rfl⟩
instance : TyN Tryz.prog 200 1 24 (.slice none 0 0) := tyn_of (by kernel_rfl)
instance : TyA Tryz.prog 201 false := ⟨_, Tryz.underlying201, rfl⟩
instance : TyN Tryz.prog 201 1 8 (.nilFunc) := tyn_of (by kernel_rfl)
instance : TyA Tryz.prog 202 false := ⟨_, Tryz.underlying202, rfl⟩
instance : TyN Tryz.prog 202 1 8 (.nilFunc) := tyn_of (by kernel_rfl)
instance : TyA Tryz.prog 203 false := ⟨_, Tryz.underlying203, rfl⟩
instance : TyN Tryz.prog 203 1 8 (.nilFunc) := tyn_of (by kernel_rfl)
instance : TyD Tryz.prog 204 (.int .u64) := ⟨Tryz.underlying204⟩
instance : TyA Tryz.prog 204 false := ⟨_, Tryz.underlying204, rfl⟩
instance : TyN Tryz.prog 204 1 8 (.int .u64 0) := tyn_of (by kernel_rfl)
instance : TyA Tryz.prog 205 false := ⟨_, Tryz.underlying205, rfl⟩
instance : TyN Tryz.prog 205 1 8 (.nilFunc) := tyn_of (by kernel_rfl)
instance : TyA Tryz.prog 206 false := ⟨_, Tryz.underlying206, rfl⟩
instance : TyN Tryz.prog 206 1 8 (.nilFunc) := tyn_of (by kernel_rfl)
instance : TyA Tryz.prog 207 false := ⟨_, Tryz.underlying207, rfl⟩
instance : TyN Tryz.prog 207 1 8 (.nilFunc) := tyn_of (by kernel_rfl)
instance : TyD Tryz.prog 208 (.pointer 3) := ⟨Tryz.underlying208⟩
instance : TyA Tryz.prog 208 false := ⟨_, Tryz.underlying208, rfl⟩
instance : TyN Tryz.prog 208 1 8 (.pointer none) := tyn_of (by kernel_rfl)
instance : TyA Tryz.prog 209 false := ⟨_, Tryz.underlying209, rfl⟩
instance : TyN Tryz.prog 209 1 8 (.nilFunc) := tyn_of (by kernel_rfl)
instance : TyA Tryz.prog 210 false := ⟨_, Tryz.underlying210, rfl⟩
instance : TyN Tryz.prog 210 1 8 (.nilFunc) := tyn_of (by kernel_rfl)
instance : TyA Tryz.prog 211 false := ⟨_, Tryz.underlying211, rfl⟩
instance : TyN Tryz.prog 211 1 8 (.nilFunc) := tyn_of (by kernel_rfl)
instance : TyA Tryz.prog 212 false := ⟨_, Tryz.underlying212, rfl⟩
instance : TyN Tryz.prog 212 1 8 (.nilFunc) := tyn_of (by kernel_rfl)
instance : TyA Tryz.prog 213 false := ⟨_, Tryz.underlying213, rfl⟩
instance : TyN Tryz.prog 213 1 8 (.nilFunc) := tyn_of (by kernel_rfl)
instance : TyA Tryz.prog 214 false := ⟨_, Tryz.underlying214, rfl⟩
instance : TyN Tryz.prog 214 1 8 (.nilFunc) := tyn_of (by kernel_rfl)
instance : TyA Tryz.prog 215 false := ⟨_, Tryz.underlying215, rfl⟩
instance : TyN Tryz.prog 215 1 8 (.nilFunc) := tyn_of (by kernel_rfl)
instance : TyA Tryz.prog 216 false := ⟨_, Tryz.underlying216, rfl⟩
instance : TyN Tryz.prog 216 1 8 (.nilFunc) := tyn_of (by kernel_rfl)
instance : TyA Tryz.prog 217 false := ⟨_, Tryz.underlying217, rfl⟩
instance : TyN Tryz.prog 217 1 8 (.nilFunc) := tyn_of (by kernel_rfl)
instance : TyA Tryz.prog 218 false := ⟨_, Tryz.underlying218, rfl⟩
instance : TyN Tryz.prog 218 1 8 (.nilFunc) := tyn_of (by kernel_rfl)
instance : TyD Tryz.prog 219 (.pointer 204) := ⟨Tryz.underlying219⟩
instance : TyA Tryz.prog 219 false := ⟨_, Tryz.underlying219, rfl⟩
instance : TyN Tryz.prog 219 1 8 (.pointer none) := tyn_of (by kernel_rfl)
instance : TyA Tryz.prog 221 false := ⟨_, Tryz.underlying221, rfl⟩
instance : TyN Tryz.prog 221 1 8 (.nilFunc) := tyn_of (by kernel_rfl)
instance : TyA Tryz.prog 222 false := ⟨_, Tryz.underlying222, rfl⟩
instance : TyN Tryz.prog 222 1 8 (.nilFunc) := tyn_of (by kernel_rfl)
instance : TyA Tryz.prog 223 false := ⟨_, Tryz.underlying223, rfl⟩
instance : TyN Tryz.prog 223 1 8 (.nilFunc) := tyn_of (by kernel_rfl)
instance : TyA Tryz.prog 229 false := ⟨_, Tryz.underlying229, rfl⟩
instance : TyN Tryz.prog 229 1 8 (.nilFunc) := tyn_of (by kernel_rfl)
instance : TyA Tryz.prog 232 false := ⟨_, Tryz.underlying232, rfl⟩
instance : TyN Tryz.prog 232 1 8 (.nilFunc) := tyn_of (by kernel_rfl)
instance : TyD Tryz.prog 233 (.pointer 5) := ⟨Tryz.underlying233⟩
instance : TyA Tryz.prog 233 false := ⟨_, Tryz.underlying233, rfl⟩
instance : TyN Tryz.prog 233 1 8 (.pointer none) := tyn_of (by kernel_rfl)
instance : FnB Tryz.prog 2 := ⟨_, Tryz.func2, by decide +kernel, rfl⟩
instance : FnB Tryz.prog 3 := ⟨_, Tryz.func3, by decide +kernel, rfl⟩
instance : FnB Tryz.prog 4 := ⟨_, Tryz.func4, by decide +kernel, rfl⟩
instance : FnB Tryz.prog 5 := ⟨_, Tryz.func5, by decide +kernel, rfl⟩
instance : FnB Tryz.prog 6 := ⟨_, Tryz.func6, by decide +kernel, rfl⟩
instance : FnB Tryz.prog 7 := ⟨_, Tryz.func7, by decide +kernel, rfl⟩
instance : FnB Tryz.prog 8 := ⟨_, Tryz.func8, by decide +kernel, rfl⟩
instance : FnB Tryz.prog 9 := ⟨_, Tryz.func9, by decide +kernel, rfl⟩
instance : FnB Tryz.prog 10 := ⟨_, Tryz.func10, by decide +kernel, rfl⟩
instance : FnB Tryz.prog 11 := ⟨_, Tryz.func11, by decide +kernel, rfl⟩
instance : FnB Tryz.prog 12 := ⟨_, Tryz.func12, by decide +kernel, rfl⟩
instance : FnB Tryz.prog 13 := ⟨_, Tryz.func13, by decide +kernel, rfl⟩
instance : FnB Tryz.prog 14 := ⟨_, Tryz.func14, by decide +kernel, rfl⟩
instance : FnB Tryz.prog 15 := ⟨_, Tryz.func15, by decide +kernel, rfl⟩
instance : FnB Tryz.prog 16 := ⟨_, Tryz.func16, by decide +kernel, rfl⟩
instance : FnB Tryz.prog 17 := ⟨_, Tryz.func17, by decide +kernel, rfl⟩
instance : FnB Tryz.prog 18 := ⟨_, Tryz.func18, by decide +kernel, rfl⟩
instance : FnB Tryz.prog 19 := ⟨_, Tryz.func19, by decide +kernel, rfl⟩
instance : FnB Tryz.prog 20 := ⟨_, Tryz.func20, by decide +kernel, rfl⟩
instance : FnB Tryz.prog 21 := ⟨_, Tryz.func21, by decide +kernel, rfl⟩
instance : FnB Tryz.prog 22 := ⟨_, Tryz.func22, by decide +kernel, rfl⟩
instance : FnB Tryz.prog 23 := ⟨_, Tryz.func23, by decide +kernel, rfl⟩
instance : FnB Tryz.prog 24 := ⟨_, Tryz.func24, by decide +kernel, rfl⟩
instance : FnB Tryz.prog 25 := ⟨_, Tryz.func25, by decide +kernel, rfl⟩
instance : FnB Tryz.prog 26 := ⟨_, Tryz.func26, by decide +kernel, rfl⟩
instance : FnB Tryz.prog 27 := ⟨_, Tryz.func27, by decide +kernel, rfl⟩
instance : FnB Tryz.prog 28 := ⟨_, Tryz.func28, by decide +kernel, rfl⟩
instance : FnB Tryz.prog 29 := ⟨_, Tryz.func29, by decide +kernel, rfl⟩
instance : FnB Tryz.prog 30 := ⟨_, Tryz.func30, by decide +kernel, rfl⟩
instance : FnB Tryz.prog 31 := ⟨_, Tryz.func31, by decide +kernel, rfl⟩
instance : FnB Tryz.prog 32 := ⟨_, Tryz.func32, by decide +kernel, rfl⟩
instance : FnB Tryz.prog 33 := ⟨_, Tryz.func33, by decide +kernel, rfl⟩
instance : FnB Tryz.prog 34 := ⟨_, Tryz.func34, by decide +kernel, rfl⟩
instance : FnB Tryz.prog 35 := ⟨_, Tryz.func35, by decide +kernel, rfl⟩
instance : FnB Tryz.prog 36 := ⟨_, Tryz.func36, by decide +kernel, rfl⟩
instance : FnB Tryz.prog 37 := ⟨_, Tryz.func37, by decide +kernel, rfl⟩
instance : FnB Tryz.prog 38 := ⟨_, Tryz.func38, by decide +kernel, rfl⟩
instance : FnB Tryz.prog 39 := ⟨_, Tryz.func39, by decide +kernel, rfl⟩
instance : FnB Tryz.prog 40 := ⟨_, Tryz.func40, by decide +kernel, rfl⟩
instance : FnB Tryz.prog 41 := ⟨_, Tryz.func41, by decide +kernel, rfl⟩
instance : FnB Tryz.prog 42 := ⟨_, Tryz.func42, by decide +kernel, rfl⟩
instance : FnB Tryz.prog 43 := ⟨_, Tryz.func43, by decide +kernel, rfl⟩
instance : FnB Tryz.prog 44 := ⟨_, Tryz.func44, by decide +kernel, rfl⟩
instance : FnB Tryz.prog 45 := ⟨_, Tryz.func45, by decide +kernel, rfl⟩
instance : FnB Tryz.prog 46 := ⟨_, Tryz.func46, by decide +kernel, rfl⟩
instance : FnB Tryz.prog 47 := ⟨_, Tryz.func47, by decide +kernel, rfl⟩
instance : FnB Tryz.prog 48 := ⟨_, Tryz.func48, by decide +kernel, rfl⟩
instance : FnB Tryz.prog 49 := ⟨_, Tryz.func49, by decide +kernel, rfl⟩
instance : FnB Tryz.prog 50 := ⟨_, Tryz.func50, by decide +kernel, rfl⟩
instance : FnB Tryz.prog 51 := ⟨_, Tryz.func51, by decide +kernel, rfl⟩
instance : FnB Tryz.prog 52 := ⟨_, Tryz.func52, by decide +kernel, rfl⟩
instance : FnB Tryz.prog 53 := ⟨_, Tryz.func53, by decide +kernel, rfl⟩
instance : FnB Tryz.prog 54 := ⟨_, Tryz.func54, by decide +kernel, rfl⟩
instance : FnB Tryz.prog 55 := ⟨_, Tryz.func55, by decide +kernel, rfl⟩
instance : FnB Tryz.prog 56 := ⟨_, Tryz.func56, by decide +kernel, rfl⟩
instance : FnB Tryz.prog 57 := ⟨_, Tryz.func57, by decide +kernel, rfl⟩
instance : FnB Tryz.prog 58 := ⟨_, Tryz.func58, by decide +kernel, rfl⟩
instance : FnB Tryz.prog 59 := ⟨_, Tryz.func59, by decide +kernel, rfl⟩
instance : FnB Tryz.prog 60 := ⟨_, Tryz.func60, by decide +kernel, rfl⟩
instance : FnB Tryz.prog 61 := ⟨_, Tryz.func61, by decide +kernel, rfl⟩
instance : FnB Tryz.prog 62 := ⟨_, Tryz.func62, by decide +kernel, rfl⟩
instance : FnB Tryz.prog 63 := ⟨_, Tryz.func63, by decide +kernel, rfl⟩
instance : FnB Tryz.prog 64 := ⟨_, Tryz.func64, by decide +kernel, rfl⟩
instance : FnB Tryz.prog 65 := ⟨_, Tryz.func65, by decide +kernel, rfl⟩
instance : FnB Tryz.prog 66 := ⟨_, Tryz.func66, by decide +kernel, rfl⟩
instance : FnB Tryz.prog 67 := ⟨_, Tryz.func67, by decide +kernel, rfl⟩
instance : FnB Tryz.prog 68 := ⟨_, Tryz.func68, by decide +kernel, rfl⟩
instance : FnB Tryz.prog 69 := ⟨_, Tryz.func69, by decide +kernel, rfl⟩
instance : FnB Tryz.prog 70 := ⟨_, Tryz.func70, by decide +kernel, rfl⟩
instance : FnB Tryz.prog 71 := ⟨_, Tryz.func71, by decide +kernel, rfl⟩
instance : FnB Tryz.prog 72 := ⟨_, Tryz.func72, by decide +kernel, rfl⟩
instance : FnB Tryz.prog 73 := ⟨_, Tryz.func73, by decide +kernel, rfl⟩
instance : FnB Tryz.prog 74 := ⟨_, Tryz.func74, by decide +kernel, rfl⟩
instance : FnB Tryz.prog 75 := ⟨_, Tryz.func75, by decide +kernel, rfl⟩
instance : FnB Tryz.prog 76 := ⟨_, Tryz.func76, by decide +kernel, rfl⟩
instance : FnB Tryz.prog 77 := ⟨_, Tryz.func77, by decide +kernel, rfl⟩
instance : FnB Tryz.prog 78 := ⟨_, Tryz.func78, by decide +kernel, rfl⟩
instance : FnB Tryz.prog 79 := ⟨_, Tryz.func79, by decide +kernel, rfl⟩
instance : FnB Tryz.prog 80 := ⟨_, Tryz.func80, by decide +kernel, rfl⟩
instance : FnB Tryz.prog 81 := ⟨_, Tryz.func81, by decide +kernel, rfl⟩
instance : FnB Tryz.prog 82 := ⟨_, Tryz.func82, by decide +kernel, rfl⟩
instance : FnB Tryz.prog 83 := ⟨_, Tryz.func83, by decide +kernel, rfl⟩
instance : FnB Tryz.prog 84 := ⟨_, Tryz.func84, by decide +kernel, rfl⟩
instance : FnB Tryz.prog 85 := ⟨_, Tryz.func85, by decide +kernel, rfl⟩
instance : FnB Tryz.prog 86 := ⟨_, Tryz.func86, by decide +kernel, rfl⟩
instance : FnB Tryz.prog 87 := ⟨_, Tryz.func87, by decide +kernel, rfl⟩
instance : FnB Tryz.prog 88 := ⟨_, Tryz.func88, by decide +kernel, rfl⟩
instance : FnB Tryz.prog 89 := ⟨_, Tryz.func89, by decide +kernel, rfl⟩
instance : FnB Tryz.prog 90 := ⟨_, Tryz.func90, by decide +kernel, rfl⟩
instance : FnB Tryz.prog 91 := ⟨_, Tryz.func91, by decide +kernel, rfl⟩
instance : FnB Tryz.prog 92 := ⟨_, Tryz.func92, by decide +kernel, rfl⟩
instance : FnB Tryz.prog 93 := ⟨_, Tryz.func93, by decide +kernel, rfl⟩
instance : FnB Tryz.prog 94 := ⟨_, Tryz.func94, by decide +kernel, rfl⟩
instance : FnB Tryz.prog 95 := ⟨_, Tryz.func95, by decide +kernel, rfl⟩
instance : FnB Tryz.prog 96 := ⟨_, Tryz.func96, by decide +kernel, rfl⟩
instance : FnB Tryz.prog 97 := ⟨_, Tryz.func97, by decide +kernel, rfl⟩
instance : FnB Tryz.prog 98 := ⟨_, Tryz.func98, by decide +kernel, rfl⟩
instance : FnB Tryz.prog 99 := ⟨_, Tryz.func99, by decide +kernel, rfl⟩
instance : FnB Tryz.prog 100 := ⟨_, Tryz.func100, by decide +kernel, rfl⟩
instance : FnB Tryz.prog 101 := ⟨_, Tryz.func101, by decide +kernel, rfl⟩
instance : FnB Tryz.prog 103 := ⟨_, Tryz.func103, by decide +kernel, rfl⟩
instance : FnB Tryz.prog 104 := ⟨_, Tryz.func104, by decide +kernel, rfl⟩
instance : FnB Tryz.prog 105 := ⟨_, Tryz.func105, by decide +kernel, rfl⟩
instance : FnB Tryz.prog 106 := ⟨_, Tryz.func106, by decide +kernel, rfl⟩
instance : FnB Tryz.prog 107 := ⟨_, Tryz.func107, by decide +kernel, rfl⟩
instance : FnB Tryz.prog 108 := ⟨_, Tryz.func108, by decide +kernel, rfl⟩
instance : FnB Tryz.prog 109 := ⟨_, Tryz.func109, by decide +kernel, rfl⟩
instance : FnB Tryz.prog 110 := ⟨_, Tryz.func110, by decide +kernel, rfl⟩
instance : FnB Tryz.prog 111 := ⟨_, Tryz.func111, by decide +kernel, rfl⟩
instance : FnB Tryz.prog 112 := ⟨_, Tryz.func112, by decide +kernel, rfl⟩
instance : FnB Tryz.prog 113 := ⟨_, Tryz.func113, by decide +kernel, rfl⟩
instance : FnB Tryz.prog 114 := ⟨_, Tryz.func114, by decide +kernel, rfl⟩
instance : FnB Tryz.prog 115 := ⟨_, Tryz.func115, by decide +kernel, rfl⟩
instance : FnB Tryz.prog 116 := ⟨_, Tryz.func116, by decide +kernel, rfl⟩
instance : FnB Tryz.prog 117 := ⟨_, Tryz.func117, by decide +kernel, rfl⟩
instance : FnB Tryz.prog 118 := ⟨_, Tryz.func118, by decide +kernel, rfl⟩
instance : FnB Tryz.prog 119 := ⟨_, Tryz.func119, by decide +kernel, rfl⟩
instance : FnB Tryz.prog 120 := ⟨_, Tryz.func120, by decide +kernel, rfl⟩
instance : FnB Tryz.prog 121 := ⟨_, Tryz.func121, by decide +kernel, rfl⟩
instance : FnB Tryz.prog 122 := ⟨_, Tryz.func122, by decide +kernel, rfl⟩
instance : FnB Tryz.prog 123 := ⟨_, Tryz.func123, by decide +kernel, rfl⟩
instance : FnB Tryz.prog 124 := ⟨_, Tryz.func124, by decide +kernel, rfl⟩
instance : FnB Tryz.prog 125 := ⟨_, Tryz.func125, by decide +kernel, rfl⟩
instance : FnB Tryz.prog 126 := ⟨_, Tryz.func126, by decide +kernel, rfl⟩
instance : FnB Tryz.prog 127 := ⟨_, Tryz.func127, by decide +kernel, rfl⟩
instance : FnB Tryz.prog 128 := ⟨_, Tryz.func128, by decide +kernel, rfl⟩
instance : FnB Tryz.prog 129 := ⟨_, Tryz.func129, by decide +kernel, rfl⟩
instance : FnB Tryz.prog 130 := ⟨_, Tryz.func130, by decide +kernel, rfl⟩
instance : FnB Tryz.prog 131 := ⟨_, Tryz.func131, by decide +kernel, rfl⟩
instance : FnB Tryz.prog 132 := ⟨_, Tryz.func132, by decide +kernel, rfl⟩
instance : FnB Tryz.prog 133 := ⟨_, Tryz.func133, by decide +kernel, rfl⟩
instance : FnB Tryz.prog 134 := ⟨_, Tryz.func134, by decide +kernel, rfl⟩
instance : FnB Tryz.prog 135 := ⟨_, Tryz.func135, by decide +kernel, rfl⟩
instance : FnB Tryz.prog 136 := ⟨_, Tryz.func136, by decide +kernel, rfl⟩
instance : FnB Tryz.prog 137 := ⟨_, Tryz.func137, by decide +kernel, rfl⟩
instance : FnB Tryz.prog 139 := ⟨_, Tryz.func139, by decide +kernel, rfl⟩
instance : FnB Tryz.prog 140 := ⟨_, Tryz.func140, by decide +kernel, rfl⟩
instance : FnB Tryz.prog 141 := ⟨_, Tryz.func141, by decide +kernel, rfl⟩
instance : FnB Tryz.prog 142 := ⟨_, Tryz.func142, by decide +kernel, rfl⟩
instance : FnB Tryz.prog 143 := ⟨_, Tryz.func143, by decide +kernel, rfl⟩
instance : FnB Tryz.prog 144 := ⟨_, Tryz.func144, by decide +kernel, rfl⟩
instance : FnB Tryz.prog 145 := ⟨_, Tryz.func145, by decide +kernel, rfl⟩
instance : FnB Tryz.prog 146 := ⟨_, Tryz.func146, by decide +kernel, rfl⟩
instance : FnB Tryz.prog 147 := ⟨_, Tryz.func147, by decide +kernel, rfl⟩
instance : FnB Tryz.prog 148 := ⟨_, Tryz.func148, by decide +kernel, rfl⟩
instance : FnB Tryz.prog 149 := ⟨_, Tryz.func149, by decide +kernel, rfl⟩
instance : FnB Tryz.prog 150 := ⟨_, Tryz.func150, by decide +kernel, rfl⟩
instance : FnB Tryz.prog 151 := ⟨_, Tryz.func151, by decide +kernel, rfl⟩
instance : FnB Tryz.prog 152 := ⟨_, Tryz.func152, by decide +kernel, rfl⟩
instance : FnB Tryz.prog 153 := ⟨_, Tryz.func153, by decide +kernel, rfl⟩
instance : FnB Tryz.prog 154 := ⟨_, Tryz.func154, by decide +kernel, rfl⟩
instance : FnB Tryz.prog 155 := ⟨_, Tryz.func155, by decide +kernel, rfl⟩
instance : FnB Tryz.prog 156 := ⟨_, Tryz.func156, by decide +kernel, rfl⟩
instance : FnB Tryz.prog 157 := ⟨_, Tryz.func157, by decide +kernel, rfl⟩
instance : FnB Tryz.prog 158 := ⟨_, Tryz.func158, by decide +kernel, rfl⟩
instance : FnB Tryz.prog 159 := ⟨_, Tryz.func159, by decide +kernel, rfl⟩
instance : FnB Tryz.prog 160 := ⟨_, Tryz.func160, by decide +kernel, rfl⟩
instance : FnB Tryz.prog 161 := ⟨_, Tryz.func161, by decide +kernel, rfl⟩
instance : FnOv Tryz.prog 102 31 := ⟨_, 4, Tryz.func102, by decide +kernel, rfl, by kernel_rfl, by kernel_rfl⟩
instance : FnOv Tryz.prog 138 30 := ⟨_, 4, Tryz.func138, by decide +kernel, rfl, by kernel_rfl, by kernel_rfl⟩
end Go.Proofs.YtkofbemgpeagbaaGreat
/- Plain facts on 32-bit prefixes. No program in sight. -/
namespace Go.Pl

def clampN (n : Int) : Nat := (min (max n 0) 32).toNat
theorem clampN_le (n : Int) : clampN n ≤ 32 := by unfold clampN; omega
theorem clampN_int (n : Int) : min (max n 0) 32 = (clampN n : Int) := by unfold clampN; omega
def keepN (x c : Nat) : Nat := x / 2 ^ (32 - c) * 2 ^ (32 - c)

theorem land_high (x k : Nat) (hk : k ≤ 32) (hx : x < 2 ^ 32) : x &&& (2 ^ 32 - 2 ^ k) = x / 2 ^ k * 2 ^ k := by
  apply Nat.eq_of_testBit_eq
  intro i
  have e : 2 ^ 32 - 2 ^ k = (2 ^ (32 - k) - 1) <<< k := by
    rw [Nat.shiftLeft_eq, Nat.sub_mul, ← Nat.pow_add, Nat.one_mul, Nat.sub_add_cancel hk]
  rw [Nat.testBit_and, e, Nat.testBit_shiftLeft, Nat.testBit_two_pow_sub_one, ← Nat.shiftRight_eq_div_pow, ← Nat.shiftLeft_eq, Nat.testBit_shiftLeft, Nat.testBit_shiftRight]
  by_cases h : k ≤ i
  · by_cases h2 : i < 32
    · have : i - k < 32 - k := by omega
      simp [h, this, show k + (i - k) = i by omega]
    · have hb : x.testBit i = false := Nat.testBit_lt_two_pow (Nat.lt_of_lt_of_le hx (Nat.pow_le_pow_right (by omega) (by omega)))
      simp [h, hb, show k + (i - k) = i by omega]
  · simp [h]
theorem keepN_le (x c : Nat) : keepN x c ≤ x := Nat.div_mul_le_self _ _
theorem lor_low (q k r : Nat) (hr : r < 2 ^ k) : (q * 2 ^ k) ||| r = q * 2 ^ k + r := by
  rw [← Nat.shiftLeft_eq]; exact (Nat.shiftLeft_add_eq_or_of_lt hr q).symm
theorem mask_wrap (k : Nat) (hk : k ≤ 32) : (4294967295 * 2 ^ k) % 4294967296 = 4294967296 - 2 ^ k := by
  have h1 : 2 ^ k ≤ 2 ^ 32 := Nat.pow_le_pow_right (by omega) hk
  have h2 : 0 < 2 ^ k := Nat.two_pow_pos k
  have e : 4294967295 * 2 ^ k = (2 ^ k - 1) * 4294967296 + (4294967296 - 2 ^ k) := by
    have : (2 ^ k - 1) * 4294967296 = 2 ^ k * 4294967296 - 4294967296 := by rw [Nat.sub_mul, Nat.one_mul]
    omega
  rw [e, Nat.mul_comm, Nat.mul_add_mod]
  exact Nat.mod_eq_of_lt (by omega)
end Go.Pl
namespace Go.Pl
theorem keep_succ (x i : Nat) (h : i < 32) : keepN x i ||| (x / 2 ^ (31 - i) % 2 * 2 ^ (31 - i)) = keepN x (i + 1) := by
  unfold keepN
  have e1 : 32 - (i + 1) = 31 - i := by omega
  have e2 : 32 - i = (31 - i) + 1 := by omega
  rw [e1, e2]
  generalize 31 - i = k
  have hlt : x / 2 ^ k % 2 * 2 ^ k < 2 ^ (k + 1) := by
    rw [Nat.pow_succ, Nat.mul_comm (2 ^ k) 2]
    exact Nat.mul_lt_mul_of_pos_right (Nat.mod_lt _ (by omega)) (Nat.two_pow_pos k)
  rw [lor_low _ _ _ hlt]
  have e3 : x / 2 ^ (k + 1) = x / 2 ^ k / 2 := by rw [Nat.pow_succ, Nat.div_div_eq_div_mul]
  rw [e3, Nat.pow_succ]
  generalize x / 2 ^ k = q
  have := Nat.div_add_mod q 2
  have e4 : q / 2 * (2 ^ k * 2) = (2 * (q / 2)) * 2 ^ k := by rw [Nat.mul_comm (2 ^ k) 2, ← Nat.mul_assoc, Nat.mul_comm (q / 2) 2]
  rw [e4, ← Nat.add_mul, this]
theorem keep_zero (x : Nat) (hx : x < 2 ^ 32) : keepN x 0 = 0 := by
  unfold keepN; rw [Nat.sub_zero, Nat.div_eq_of_lt hx, Nat.zero_mul]
end Go.Pl
/- Prefixes and what the functions on one prefix compute. No program in sight. -/
namespace Go.Pl
open Go.RT
structure Pfx where
  addr : Nat
  len : Int
  deriving DecidableEq
def Pfx.ok (p : Pfx) : Prop := p.addr < 2 ^ 32 ∧ inr .i64 p.len
def encP (p : Pfx) : List FV := [If .u32 p.addr, If .i64 p.len]
def validB (p : Pfx) : Bool := decide (0 ≤ p.len) && decide (p.len ≤ 32) && decide ((keepN p.addr (clampN p.len) : Int) = p.addr)
theorem eqFs_encP (p q : Pfx) : eqFs (encP p) (encP q) = decide (p = q) := by
  obtain ⟨a, b⟩ := p; obtain ⟨c, d⟩ := q
  simp [eqFs, encP, If]
  by_cases h1 : a = c <;> by_cases h2 : b = d <;> simp [h1, h2] <;> omega
/-- the number of host bits -/
def hob (p : Pfx) : Nat := 32 - clampN p.len
def sz (p : Pfx) : Nat := 2 ^ hob p
end Go.Pl
/- Plain facts on runs of addresses. No program in sight. -/
namespace Go.Pl
open Go.RT
structure Spn where
  lo : Nat
  hi : Nat
  deriving DecidableEq
/-- ascending, disjoint, apart -/
def Canon (l : List Spn) : Prop := (∀ s ∈ l, s.lo < s.hi) ∧ l.Pairwise (fun a b => a.hi < b.lo)
theorem Canon.nil : Canon [] := ⟨by simp, by simp⟩

theorem Canon.push {l : List Spn} {s : Spn} (h : Canon l) (hs : s.lo < s.hi) (hl : ∀ o ∈ l, o.hi < s.lo) : Canon (l ++ [s]) := by
  refine ⟨fun o ho => ?_, ?_⟩
  · rcases List.mem_append.1 ho with h1 | h1
    · exact h.1 o h1
    · simp at h1; subst h1; exact hs
  · rw [List.pairwise_append]
    exact ⟨h.2, by simp, fun a ha b hb => by simp at hb; subst hb; exact hl a ha⟩
end Go.Pl
/- Lists of runs and lists of prefixes. No program in sight. -/
namespace Go.Pl
open Go.RT
/-! ## intersection and complement -/
def meetS (a b : List Spn) : List Spn := a.flatMap fun s => b.filterMap fun t => if max s.lo t.lo < min s.hi t.hi then some ⟨max s.lo t.lo, min s.hi t.hi⟩ else none
end Go.Pl
/- The blocks of a run. No program in sight. -/
namespace Go.Pl
open Go.RT
def blk (a k : Nat) : Pfx := ⟨a, 32 - (k : Int)⟩
/-- where the block twice as large begins -/
def pa (p : Pfx) : Nat := p.addr / (2 * sz p) * (2 * sz p)
open Go.RT
open Go.RT
end Go.Pl
namespace Go.Pl
@[simp] theorem meet_nil (a : List Spn) : meetS a [] = [] := by
  unfold meetS; induction a with
  | nil => rfl
  | cons s a ih => simp
@[simp] theorem meet_nil' (b : List Spn) : meetS [] b = [] := rfl
open Go.RT
open Go.RT
end Go.Pl
/- Graphs, their edges, and what the functions on them compute. No program in sight. -/
namespace Go.Pl
open Go.RT
set_option linter.all false
def cmpI (a b : Int) : Int := if a < b then -1 else if a > b then 1 else 0
instance (k : IntKind) (n : Int) : Decidable (inr k n) := by cases k <;> unfold inr <;> infer_instance
structure Edg where
 f : Int
 t : Int
 c : Int
 deriving DecidableEq
structure Gr where
 r : Int
 n : Int
 es : List Edg
 deriving DecidableEq
theorem row_at' {α : Type} (f : α → List FV) (l : List α) (i : Nat) (h : i < l.length) : (l.map f)[i]? = some (f l[i]) := by simp [h]
end Go.Pl
/- Routes of a table and what the functions on them compute. No program in sight. -/
namespace Go.Pl
open Go Go.RT
set_option linter.all false
structure Hop where
  ad : Int
  ifc : Int
  ro : Int
  we : Int
  via : Pfx
  deriving DecidableEq
structure Rte where
  pf : Pfx
  pr : Int
  di : Int
  me : Int
  tg : Int
  hs : List Hop
  deriving DecidableEq
def outB (n lo hi : Int) : Bool := decide (n < lo) || decide (hi < n)
/-- the first that is not 0 -/
def fst3 (a b c : Int) : Int := if a ≠ 0 then a else if b ≠ 0 then b else c
def cmpP (p q : Pfx) : Int := if (decide (p.addr < q.addr) || decide (p.addr = q.addr) && decide (p.len < q.len)) = true then -1 else if p = q then 0 else 1
def cmpHo (a b : Hop) : Int := fst3 (cmpI a.ad b.ad) (cmpI a.ifc b.ifc) (cmpI a.ro b.ro)
def cmpRt (a b : Rte) : Int := fst3 (cmpP a.pf b.pf) (cmpI a.di b.di) (cmpI a.pr b.pr)
def badHo : Option Hop → Hop → Bool
  | none, _ => false
  | some q, h => decide (0 ≤ cmpHo q h)
def hopE (h : Hop) : Int := if (outB h.ifc (-1) 15 || outB h.we 1 255) = true then 5 else if (!validB h.via) = true then 1 else 0
def hopsGo : Option Hop → List Hop → Int
  | _, [] => 0
  | p, h :: t => if hopE h ≠ 0 then hopE h else if badHo p h = true then 16 else hopsGo (some h) t
def checkRt (r : Rte) : Int :=
  if (!validB r.pf) = true then 1 else
  if outB r.pr 1 7 = true then 15 else
  if (outB r.di 0 255 || outB r.me 0 16777216 || outB r.tg 0 4294967295) = true then 5 else
  if 64 < r.hs.length then 4 else hopsGo none r.hs
def hasB (l : List Rte) (p : Pfx) (n : Int) : Bool := l.any fun x => decide (x.pf = p) && decide (x.pr = n)
def badRt : Option Rte → Rte → Bool
  | none, _ => false
  | some q, x => decide (0 ≤ cmpRt q x)
def chkGo (l : List Rte) : List Rte → List Rte → Int
  | _, [] => 0
  | s, x :: t => if checkRt x ≠ 0 then checkRt x else if hasB s x.pf x.pr = true then 7 else if badRt s.getLast? x = true then 16 else chkGo l (s ++ [x]) t
def checkL (l : List Rte) : Int := if 2000 < l.length then 4 else chkGo l [] l
def actGo : Option Pfx → List Rte → List Rte
  | _, [] => []
  | p, x :: t => (if p = some x.pf then [] else [x]) ++ actGo (some x.pf) t
def activeF (l : List Rte) : List Rte := if checkL l ≠ 0 then [] else actGo none l
/-- a list of active routes, or nothing -/
def listF (l : List Rte) : List Rte := if (activeF l).length < l.length then [] else l
end Go.Pl
/- Lists of edges and numbers: what the reference's loops compute. -/
namespace Go.Pl
open Go.RT
set_option linter.all false
end Go.Pl
/- Runs of equal elements cut to one. -/
namespace Go.Pl
set_option linter.all false
def ddF {α : Type} (eq : α → α → Bool) : α → List α → List α
  | _, [] => []
  | p, x :: l => bif eq x p then ddF eq x l else x :: ddF eq x l
def compL {α : Type} (eq : α → α → Bool) : List α → List α
  | [] => []
  | x :: l => x :: ddF eq x l
/-- writing at the end of what is kept -/
theorem set_kept {α : Type} (c l : List α) (x : α) (h : c.length < l.length) : (c ++ l.drop c.length).set c.length x = (c ++ [x]) ++ l.drop (c ++ [x]).length := by
  have e := List.drop_eq_getElem_cons h
  rw [List.set_append, if_neg (by omega), Nat.sub_self, e, List.set_cons_zero]
  simp
theorem kept_get {α : Type} (c l : List α) (j : Nat) (h : c.length ≤ j) : (c ++ l.drop c.length)[j]? = l[j]? := by
  rw [List.getElem?_append, if_neg (by omega), List.getElem?_drop]; congr 1; omega
theorem kept_len {α : Type} (c l : List α) (h : c.length ≤ l.length) : (c ++ l.drop c.length).length = l.length := by simp; omega
end Go.Pl
/- The kit's contract of slices.SortFunc, turned into one of the engine's. -/
namespace Go.RT
open Go Go.Proofs Go.Sort Go.Shelf
set_option linter.all false
theorem Mem.reheap {C : Cx} {H H' : Hp} {nx : Nat} {S : Nat → Prop} {m : Ids} {w : World} (k1 : Mem C H nx S m w) (hh : ∀ id, hlook H' id = hlook H id) : Mem C H' nx S m w :=
  ⟨k1.os, k1.tape, k1.output, k1.fz, k1.size, k1.frame, k1.le, k1.sub, k1.n0, fun id o h => k1.objs id o ((hh id).symm.trans h), fun id o b h => k1.blk id o b ((hh id).symm.trans h), fun a b o1 o2 bb h1 h2 => k1.inj a b o1 o2 bb ((hh a).symm.trans h1) ((hh b).symm.trans h2), k1.stab, k1.fresh, k1.nkeep (Le.refl _ _ _) (Nat.le_refl _) (fun _ _ _ _ _ _ h => h.of fun o h => (hh _).symm.trans h) (fun _ _ _ _ _ _ _ c e _ _ _ k2 k3 => ⟨c, e, k2, k3⟩) (fun b' _ h2 h3 => ⟨rfl, h2, fun id2 o2 h => h3 _ _ ((hh id2).symm.trans h)⟩)⟩
def grown (w : World) (os : Array Obj) (q : Nat) : World := { w with heap := w.heap ++ os, drawn := w.drawn + q }
theorem grown_old (w : World) (os : Array Obj) (q : Nat) {b : Nat} (hb : b < w.heap.size) : (grown w os q).heap[b]? = w.heap[b]? := by simp [grown, Array.getElem?_append, hb]
theorem Mem.grow {C : Cx} {H : Hp} {nx : Nat} {S : Nat → Prop} {m : Ids} {w : World} (hm : Mem C H nx S m w) (os : Array Obj) (q : Nat) : Mem C H nx S m (grown w os q) ∧ Le S m w S m (grown w os q) := by
  have hsz : w.heap.size ≤ (grown w os q).heap.size := by simp [grown]
  have hle : Le S m w S m (grown w os q) := by
    refine ⟨fun _ h => h, fun b hb => grown_old w os q (hm.stab b hb), fun _ _ h => h, fun b n ⟨c, e, fr, h1, h2⟩ => ⟨c, e, fr, ?_, h2⟩⟩
    rw [grown_old w os q (Array.getElem?_eq_some_iff.1 h1).1]; exact h1
  refine ⟨hm.step hle ⟨rfl, Nat.le_add_right _ _⟩ rfl rfl (fun a ha => ?_) hsz (fun b hb _ => grown_old w os q (Nat.lt_of_lt_of_le hb hm.size)) (fun b hb => .inl hb) (fun id o ho => (hm.objs id o ho).mono hle fun b hb => grown_old w os q (hm.blk id o b ho hb).2.1)
    (fun id o b ho hb => ?_) hm.inj (fun b hb => Nat.lt_of_lt_of_le (hm.stab b hb) hsz) hm.fresh (hm.nkeep hle hsz (fun _ _ _ _ _ _ h => h) (fun id sz i j isz irows b2 c2 e2 u _ _ q2 q3 => ⟨c2, e2, (grown_old w os q (Array.getElem?_eq_some_iff.1 q2).1).trans q2, q3⟩) (fun b' h1 h2 h3 => ⟨grown_old w os q h1, h2, h3⟩)), hle⟩
  · simp only [World.frozen?, grown_old w os q ha]
  · obtain ⟨h1, h2, h3⟩ := hm.blk id o b ho hb
    exact ⟨h1, Nat.lt_of_lt_of_le h2 hsz, h3⟩
theorem mapBlock_setRow {w : World} {b : Nat} {c : Array Value} {e : TypeId} {fr : Nat × Nat} (f : Array Value → Array Value) (hc : w.heap[b]? = some (.cells c e fr)) : mapBlock w b f = w.setRow b (f c) := by
  unfold mapBlock World.setRow
  congr 1
  apply Array.ext_getElem?
  intro i
  simp only [Array.getElem?_modify]
  by_cases h : b = i
  · subst h
    simp [hc, onCells]
  · simp [h]
/-- a run that owns nothing: what it leaves is the world it found, grown -/
theorem Mem.is_grown {C : Cx} {nx : Nat} {S : Nat → Prop} {m : Ids} {w : World} (hm : Mem C [] nx S m w) (ho : ∀ b, ¬ C.own0 b) : ∃ q os, w = grown C.w0 os q := by
  refine ⟨w.drawn - C.w0.drawn, w.heap.extract C.w0.heap.size w.heap.size, ?_⟩
  have h1 : w.heap = C.w0.heap ++ w.heap.extract C.w0.heap.size w.heap.size := by
    apply Array.ext_getElem?
    intro i
    by_cases hi : i < C.w0.heap.size
    · rw [Array.getElem?_append_left hi]; exact hm.frame i hi (ho i)
    · rw [Array.getElem?_append_right (by omega), Array.getElem?_extract]
      have := hm.size
      by_cases h2 : i < w.heap.size
      · rw [if_pos (by simp; omega)]; congr 1; omega
      · rw [if_neg (by simp; omega)]; exact Array.getElem?_eq_none (by omega)
  have h2 : w.drawn = C.w0.drawn + (w.drawn - C.w0.drawn) := by have := hm.os.2; omega
  obtain ⟨heap, tape, drawn, os, output⟩ := w
  unfold grown
  simp only at h1 h2
  have e1 := hm.tape; have e2 := hm.os.1; have e3 := hm.output
  simp only at e1 e2 e3
  subst e1 e2 e3
  simp only [World.mk.injEq, true_and, and_true]
  exact ⟨h1, h2⟩
/-- what slices.SortFunc leaves -/
def sortBy {β : Type} [Inhabited β] (cf : β → β → Int) (l : List β) : List β := (pdq (ltOf cf) l.toArray 0 l.length (Lib.bitLen l.length) true true).toList
theorem sortBy_spec {β : Type} [Inhabited β] (cf : β → β → Int) (hO : SWO (ltOf cf)) (l : List β) : (sortBy cf l).Perm l ∧ (sortBy cf l).length = l.length ∧ ∀ (i j : Nat) (x y : β), i < j → (sortBy cf l)[i]? = some x → (sortBy cf l)[j]? = some y → ¬ cf y x < 0 := by
  have h := pdq_sorts (ltOf cf) hO l.toArray 0 l.length (Lib.bitLen l.length) true true (Nat.zero_le _) (by simp) (Or.inl rfl)
  obtain ⟨⟨p1, p2, p3⟩, p4⟩ := h
  have e : (sortBy cf l).length = l.length := by simpa [sortBy] using p1
  refine ⟨?_, e, fun i j x y hij hx hy => ?_⟩
  · have : ∀ (a : Array β) n, a.size = n → a.extract 0 n = a := fun a n hn => by subst hn; simp
    rw [this _ _ (by simpa using p1), this _ _ (by simp)] at p3
    simpa [sortBy] using p3
  · have hj : j < l.length := by rw [← e]; exact (List.getElem?_eq_some_iff.1 hy).1
    have hj' : j < (pdq (ltOf cf) l.toArray 0 l.length (Lib.bitLen l.length) true true).size := by rw [p1]; simpa using hj
    have := p4 i j (Nat.zero_le _) hij hj
    rw [getElem!_pos _ j hj', getElem!_pos _ i (by omega)] at this
    simp only [sortBy, Array.getElem?_toList] at hx hy
    rw [Array.getElem?_eq_getElem (by omega)] at hx hy
    cases hx; cases hy
    simpa [ltOf] using this
variable {P : Program} {ρ : Ren}
end Go.RT
/- Sorted lists of numbers. -/
namespace Go.RT
open Go
set_option linter.all false
def srtI (l : List Int) : List Int := l.mergeSort fun x y => decide (x ≤ y)
theorem srtI_perm (l : List Int) : (srtI l).Perm l := List.mergeSort_perm l _
theorem srtI_sorted (l : List Int) : (srtI l).Pairwise (fun x y => x ≤ y) := by
  have := List.pairwise_mergeSort (le := fun x y : Int => decide (x ≤ y)) (fun a b c h1 h2 => by simp at h1 h2 ⊢; omega) (fun a b => by simp; omega) l
  exact this.imp (fun h => by simpa using h)
end Go.RT
/- The nodes to which edges lead: sorted and cut, or put in one by one. -/
namespace Go.Pl
open Go.RT
set_option linter.all false
abbrev eqI (x y : Int) : Bool := decide (x = y)
def tosL (n : Int) (l : List Edg) : List Int := (l.filter fun e => decide (e.f = n)).map (·.t)
def Asc (l : List Int) : Prop := l.Pairwise (fun x y => x < y)
theorem Asc.ext : ∀ {a b : List Int}, Asc a → Asc b → (∀ p, p ∈ a ↔ p ∈ b) → a = b
  | [], [], _, _, _ => rfl
  | [], y :: b, _, _, h => by have := (h y).2 (List.mem_cons_self ..); cases this
  | x :: a, [], _, _, h => by have := (h x).1 (List.mem_cons_self ..); cases this
  | x :: a, y :: b, ha, hb, h => by
    obtain ⟨a1, a2⟩ := List.pairwise_cons.1 ha
    obtain ⟨b1, b2⟩ := List.pairwise_cons.1 hb
    have e : x = y := by
      rcases List.mem_cons.1 ((h x).1 (List.mem_cons_self ..)) with e | h1
      · exact e
      · rcases List.mem_cons.1 ((h y).2 (List.mem_cons_self ..)) with e | h2
        · exact e.symm
        · have := b1 x h1; have := a1 y h2; omega
    subst e
    refine congrArg _ (Asc.ext a2 b2 fun p => ?_)
    constructor
    · intro hp
      rcases List.mem_cons.1 ((h p).1 (List.mem_cons_of_mem _ hp)) with e | h1
      · subst e; have := a1 p hp; omega
      · exact h1
    · intro hp
      rcases List.mem_cons.1 ((h p).2 (List.mem_cons_of_mem _ hp)) with e | h1
      · subst e; have := b1 p hp; omega
      · exact h1
theorem ddF_asc : ∀ (l : List Int) (p : Int), (p :: l).Pairwise (fun x y => x ≤ y) → Asc (p :: ddF eqI p l) ∧ ∀ x, x ∈ p :: ddF eqI p l ↔ x ∈ p :: l
  | [], p, _ => ⟨by simp [Asc, ddF], fun x => by simp [ddF]⟩
  | y :: l, p, h => by
    obtain ⟨h1, h2⟩ := List.pairwise_cons.1 h
    obtain ⟨i1, i2⟩ := ddF_asc l y h2
    have hpy := h1 y (List.mem_cons_self ..)
    simp only [ddF]
    by_cases e : y = p
    · subst e
      simp only [eqI, decide_true, cond_true]
      refine ⟨i1, fun x => ?_⟩
      rw [i2]; simp
    · have : eqI y p = false := by simp [eqI, e]
      rw [this, cond_false]
      refine ⟨List.pairwise_cons.2 ⟨fun z hz => ?_, i1⟩, fun x => ?_⟩
      · have := (i2 z).1 hz
        rcases List.mem_cons.1 this with rfl | hz
        · omega
        · have := (List.pairwise_cons.1 h2).1 z hz; omega
      · rw [List.mem_cons, i2, List.mem_cons]; simp
theorem comp_asc {l : List Int} (h : l.Pairwise (fun x y => x ≤ y)) : Asc (compL eqI l) ∧ ∀ x, x ∈ compL eqI l ↔ x ∈ l := by
  cases l with
  | nil => exact ⟨by simp [Asc, compL], fun x => by simp [compL]⟩
  | cons p l => exact ddF_asc l p h
def nextI (n : Int) (l : List Edg) : List Int := compL eqI (srtI (tosL n l))
theorem nextI_spec (n : Int) (l : List Edg) : Asc (nextI n l) ∧ ∀ x, x ∈ nextI n l ↔ ∃ e ∈ l, e.f = n ∧ e.t = x := by
  obtain ⟨h1, h2⟩ := comp_asc (srtI_sorted (tosL n l))
  refine ⟨h1, fun x => ?_⟩
  show x ∈ compL eqI _ ↔ _
  rw [h2, (srtI_perm _).mem_iff]
  simp [tosL, and_assoc]
end Go.Pl
/- The valid graph of edges: sorted, of several edges between the same nodes the cheapest. -/
namespace Go.Pl
open Go.RT Go.Shelf Go.Proofs
set_option linter.all false
instance : Inhabited Edg := ⟨⟨0, 0, 0⟩⟩
theorem cmpI_neg (a b : Int) : cmpI a b < 0 ↔ a < b := by unfold cmpI; split <;> (try split) <;> omega
theorem cmpI_zero (a b : Int) : cmpI a b = 0 ↔ a = b := by unfold cmpI; split <;> (try split) <;> omega
/-- strictly ascending by their ends -/
def ltK (a b : Edg) : Prop := a.f < b.f ∨ a.f = b.f ∧ a.t < b.t
def AscK (l : List Edg) : Prop := l.Pairwise ltK
theorem AscK.ext : ∀ {a b : List Edg}, AscK a → AscK b → (∀ p, p ∈ a ↔ p ∈ b) → a = b
  | [], [], _, _, _ => rfl
  | [], y :: b, _, _, h => by have := (h y).2 (List.mem_cons_self ..); cases this
  | x :: a, [], _, _, h => by have := (h x).1 (List.mem_cons_self ..); cases this
  | x :: a, y :: b, ha, hb, h => by
    obtain ⟨a1, a2⟩ := List.pairwise_cons.1 ha
    obtain ⟨b1, b2⟩ := List.pairwise_cons.1 hb
    have e : x = y := by
      rcases List.mem_cons.1 ((h x).1 (List.mem_cons_self ..)) with e | h1
      · exact e
      · rcases List.mem_cons.1 ((h y).2 (List.mem_cons_self ..)) with e | h2
        · exact e.symm
        · have := b1 x h1; have := a1 y h2; unfold ltK at *; omega
    subst e
    refine congrArg _ (AscK.ext a2 b2 fun p => ?_)
    constructor
    · intro hp
      rcases List.mem_cons.1 ((h p).1 (List.mem_cons_of_mem _ hp)) with e | h1
      · subst e; have := a1 p hp; unfold ltK at *; omega
      · exact h1
    · intro hp
      rcases List.mem_cons.1 ((h p).2 (List.mem_cons_of_mem _ hp)) with e | h1
      · subst e; have := b1 p hp; unfold ltK at *; omega
      · exact h1
/-- the cheapest edge of each pair of ends, ascending -/
structure Least (l s : List Edg) : Prop where
  asc : AscK s
  sub : ∀ e ∈ s, e ∈ l
  min : ∀ e ∈ s, ∀ e' ∈ l, e'.f = e.f → e'.t = e.t → e.c ≤ e'.c
  all : ∀ e' ∈ l, ∃ e ∈ s, e.f = e'.f ∧ e.t = e'.t
end Go.Pl
/- The order of routes; valid tables. No program in sight. -/
namespace Go.Pl
open Go Go.RT
set_option linter.all false
def ltPf (p q : Pfx) : Prop := p.addr < q.addr ∨ p.addr = q.addr ∧ p.len < q.len
theorem Pfx.ext' {p q : Pfx} (h1 : p.addr = q.addr) (h2 : p.len = q.len) : p = q := by
  cases p; cases q; simp only at h1 h2; subst h1; subst h2; rfl
theorem cmpP_neg (p q : Pfx) : cmpP p q < 0 ↔ ltPf p q := by
  unfold cmpP ltPf
  by_cases c : (decide (p.addr < q.addr) || decide (p.addr = q.addr) && decide (p.len < q.len)) = true
  · rw [if_pos c]; simp at c; simp; omega
  · rw [if_neg c]; simp at c
    constructor
    · intro h; split at h <;> omega
    · intro h; omega
theorem cmpP_zero (p q : Pfx) : cmpP p q = 0 ↔ p = q := by
  unfold cmpP
  by_cases c : (decide (p.addr < q.addr) || decide (p.addr = q.addr) && decide (p.len < q.len)) = true
  · rw [if_pos c]; simp at c
    constructor
    · intro h; cases h
    · intro h; subst h; omega
  · rw [if_neg c]
    by_cases h : p = q
    · simp [h]
    · simp [h]
theorem fst3_neg (a b c : Int) : fst3 a b c < 0 ↔ a < 0 ∨ a = 0 ∧ (b < 0 ∨ b = 0 ∧ c < 0) := by
  unfold fst3
  split
  · omega
  · split <;> omega
def ltRt (a b : Rte) : Prop := ltPf a.pf b.pf ∨ a.pf = b.pf ∧ (a.di < b.di ∨ a.di = b.di ∧ a.pr < b.pr)
theorem cmpRt_neg (a b : Rte) : cmpRt a b < 0 ↔ ltRt a b := by
  unfold cmpRt ltRt
  rw [fst3_neg, cmpP_neg, cmpP_zero, cmpI_neg, cmpI_zero, cmpI_neg]
theorem pf_tri (p q : Pfx) : ltPf p q ∨ p = q ∨ ltPf q p := by
  unfold ltPf
  by_cases h1 : p.addr = q.addr
  · by_cases h2 : p.len = q.len
    · exact .inr (.inl (Pfx.ext' h1 h2))
    · omega
  · omega
theorem ltPf.trans {a b c : Pfx} (h1 : ltPf a b) (h2 : ltPf b c) : ltPf a c := by unfold ltPf at *; omega
theorem ltPf.irr {a : Pfx} (h : ltPf a a) : False := by unfold ltPf at h; omega
theorem ltRt.trans {a b c : Rte} (h1 : ltRt a b) (h2 : ltRt b c) : ltRt a c := by
  unfold ltRt at *
  rcases h1 with h1 | ⟨e1, h1⟩ <;> rcases h2 with h2 | ⟨e2, h2⟩
  · exact .inl (h1.trans h2)
  · exact .inl (e2 ▸ h1)
  · exact .inl (e1 ▸ h2)
  · exact .inr ⟨e1.trans e2, by omega⟩
theorem ltRt.irr {a : Rte} (h : ltRt a a) : False := by
  unfold ltRt at h
  rcases h with h | ⟨_, h⟩
  · exact h.irr
  · omega
def sameK (a b : Rte) : Prop := a.pf = b.pf ∧ a.pr = b.pr
/-- a valid table -/
structure TabOk (l : List Rte) : Prop where
  len : l.length ≤ 2000
  chk : ∀ x ∈ l, checkRt x = 0
  asc : l.Pairwise ltRt
  uni : l.Pairwise fun a b => ¬ sameK a b
theorem hasB_iff {l : List Rte} {p : Pfx} {n : Int} : hasB l p n = true ↔ ∃ x ∈ l, x.pf = p ∧ x.pr = n := by
  simp [hasB, List.any_eq_true]
theorem chk_iff (l : List Rte) : ∀ (t s : List Rte), chkGo l s t = 0 ↔ (∀ x ∈ t, checkRt x = 0) ∧ t.Pairwise ltRt ∧ (t.Pairwise fun a b => ¬ sameK a b) ∧ (∀ x ∈ t, ∀ q, s.getLast? = some q → ltRt q x) ∧ ∀ x ∈ t, ∀ y ∈ s, ¬ sameK y x
  | [], s => by simp [chkGo]
  | x :: t, s => by
    simp only [chkGo]
    by_cases h1 : checkRt x ≠ 0
    · rw [if_pos h1]
      exact ⟨fun h => absurd h h1, fun h => absurd (h.1 x (List.mem_cons_self ..)) h1⟩
    rw [if_neg h1]
    by_cases h2 : hasB s x.pf x.pr = true
    · rw [if_pos h2]
      obtain ⟨y, hy, k1, k2⟩ := hasB_iff.1 h2
      exact ⟨fun h => (by cases h), fun h => absurd ⟨k1, k2⟩ (h.2.2.2.2 x (List.mem_cons_self ..) y hy)⟩
    rw [if_neg h2]
    have hno : ∀ y ∈ s, ¬ sameK y x := fun y hy k => h2 (hasB_iff.2 ⟨y, hy, k⟩)
    by_cases h3 : badRt s.getLast? x = true
    · rw [if_pos h3]
      refine ⟨fun h => (by cases h), fun h => ?_⟩
      cases hs : s.getLast? with
      | none => rw [hs] at h3; cases h3
      | some q =>
        rw [hs] at h3
        have := h.2.2.2.1 x (List.mem_cons_self ..) q hs
        rw [← cmpRt_neg] at this
        simp only [badRt, decide_eq_true_eq] at h3
        omega
    rw [if_neg h3]
    have hlt : ∀ q, s.getLast? = some q → ltRt q x := fun q hq => by
      rw [hq] at h3
      rw [← cmpRt_neg]
      simp only [badRt, decide_eq_true_eq] at h3
      omega
    rw [chk_iff l t (s ++ [x])]
    simp only [List.getLast?_append, List.getLast?_singleton, Option.some_or, Option.some.injEq, List.mem_append, List.mem_singleton]
    constructor
    · rintro ⟨a1, a2, a3, a4, a5⟩
      refine ⟨fun y hy => ?_, List.pairwise_cons.2 ⟨fun y hy => a4 y hy x rfl, a2⟩, List.pairwise_cons.2 ⟨fun y hy => a5 y hy x (.inr rfl), a3⟩, fun y hy q hq => ?_, fun y hy z hz => ?_⟩
      · rcases List.mem_cons.1 hy with rfl | hy
        · simpa using h1
        · exact a1 y hy
      · rcases List.mem_cons.1 hy with rfl | hy
        · exact hlt q hq
        · exact (hlt q hq).trans (a4 y hy x rfl)
      · rcases List.mem_cons.1 hy with rfl | hy
        · exact hno z hz
        · exact a5 y hy z (.inl hz)
    · rintro ⟨a1, a2, a3, a4, a5⟩
      obtain ⟨b1, b2⟩ := List.pairwise_cons.1 a2
      obtain ⟨c1, c2⟩ := List.pairwise_cons.1 a3
      refine ⟨fun y hy => a1 y (List.mem_cons_of_mem _ hy), b2, c2, fun y hy q hq => hq ▸ b1 y hy, fun y hy z hz => ?_⟩
      rcases hz with hz | rfl
      · exact a5 y (List.mem_cons_of_mem _ hy) z hz
      · exact c1 y hy
theorem check_iff (l : List Rte) : checkL l = 0 ↔ TabOk l := by
  unfold checkL
  by_cases h : 2000 < l.length
  · rw [if_pos h]
    exact ⟨fun k => (by cases k), fun k => by have := k.len; omega⟩
  · rw [if_neg h, chk_iff l l []]
    constructor
    · rintro ⟨a1, a2, a3, _, _⟩; exact ⟨by omega, a1, a2, a3⟩
    · rintro ⟨_, a1, a2, a3⟩; exact ⟨a1, a2, a3, fun x _ q hq => by simp at hq, fun x _ y hy => by simp at hy⟩
end Go.Pl
/- Path-vector routes. No program in sight. -/
namespace Go.Pl
open Go Go.RT
set_option linter.all false
structure Seg where
  k : Int
  as' : List Int
  deriving DecidableEq
structure Tlv where
  k : Int
  v : List Int
  deriving DecidableEq
structure Att where
  or' : Int
  pa : List Seg
  nh : Int
  hm : Bool
  md : Int
  hp : Bool
  pf : Int
  am : Bool
  ha : Bool
  aa : Int
  ad : Int
  co : List Int
  ho : Bool
  og : Int
  cl : List Int
  un : List Tlv
  deriving DecidableEq
structure Pvr where
  px : Pfx
  t : Att
  pe : Int
  kd : Int
  ro : Int
  st : Bool
  deriving DecidableEq
abbrev encW (n : Int) : List FV := [If .u32 n]
abbrev VW (l : List Int) : FV := .vals 1 (l.map encW)
abbrev VY (l : List Int) : FV := .vals 1 (l.map encY)
/-- in range, and not larger than what the statements speak of -/
structure okSg (s : Seg) : Prop where
  k : inr .i64 s.k
  n : ∀ x ∈ s.as', inr .i64 x
  len : s.as'.length ≤ 2000000
structure okTl (t : Tlv) : Prop where
  k : inr .i64 t.k
  n : ∀ x ∈ t.v, 0 ≤ x ∧ x < 256
  len : t.v.length ≤ 2000000
structure okAt (a : Att) : Prop where
  or' : inr .i64 a.or'
  pa : ∀ s ∈ a.pa, okSg s
  nh : inr .u32 a.nh
  md : inr .i64 a.md
  pf : inr .i64 a.pf
  aa : inr .i64 a.aa
  ad : inr .u32 a.ad
  co : ∀ x ∈ a.co, inr .u32 x
  og : inr .u32 a.og
  cl : ∀ x ∈ a.cl, inr .u32 x
  un : ∀ t ∈ a.un, okTl t
  lpa : a.pa.length ≤ 2000000
  lco : a.co.length ≤ 2000000
  lcl : a.cl.length ≤ 2000000
  lun : a.un.length ≤ 2000000
structure okPv (r : Pvr) : Prop where
  px : r.px.ok
  t : okAt r.t
  pe : inr .i64 r.pe
  kd : inr .i64 r.kd
  ro : inr .u32 r.ro
end Go.Pl
/- Inserting routes into tables. No program in sight. -/
namespace Go.Pl
open Go Go.RT
set_option linter.all false
end Go.Pl
/- Replacing routes; active routes. No program in sight. -/
namespace Go.Pl
open Go Go.RT
set_option linter.all false
abbrev ascPf (l : List Rte) : Prop := l.Pairwise fun a b => ltPf a.pf b.pf
/-- valid tables whose prefixes ascend -/
structure ActOk (l : List Rte) : Prop where
  tab : TabOk l
  asc : ascPf l
theorem act_all : ∀ (l : List Rte) (p : Option Pfx), ascPf l → (∀ q, p = some q → ∀ x ∈ l, ltPf q x.pf) → actGo p l = l
  | [], p, _, _ => rfl
  | y :: l, p, h, hp => by
    obtain ⟨h1, h2⟩ := List.pairwise_cons.1 h
    simp only [actGo]
    have hc : ¬ p = some y.pf := fun e => (hp _ e y (List.mem_cons_self ..)).irr
    rw [if_neg hc, act_all l (some y.pf) h2 fun q hq x hx => by cases hq; exact h1 x hx]; rfl
theorem ActOk.list {l : List Rte} (h : ActOk l) : listF l = l := by
  have he : activeF l = l := by
    unfold activeF
    rw [if_neg (by simp [(check_iff l).2 h.tab]), act_all l none h.asc fun q hq => by cases hq]
  unfold listF
  rw [he, if_neg (by omega)]
end Go.Pl
/- Lists of prefixes, ascending, each once; changes between lists of active routes. No program in sight. -/
namespace Go.Pl
open Go Go.RT
set_option linter.all false
end Go.Pl
/- Steps of the loops over hops and routes. No program in sight. -/
namespace Go.Pl
open Go Go.RT
set_option linter.all false
def prvG {α : Type} (l : List α) (i : Nat) : Option α := if i = 0 then none else l[i - 1]?
theorem prvG_succ {α : Type} {l : List α} {i : Nat} (h : i < l.length) : prvG l (i + 1) = some l[i] := by simp [prvG, h]
theorem prv_row {α : Type} (f : α → List FV) (l : List α) (d : α) {i : Nat} (h : i ≤ l.length) : ∃ q, 0 < i → prvG l i = some q ∧ (l.map f)[i - 1]? = some (f q) := by
  by_cases h0 : 0 < i
  · exact ⟨l[i - 1], fun _ => ⟨by simp [prvG]; omega, by rw [List.getElem?_map, List.getElem?_eq_getElem (by omega)]; rfl⟩⟩
  · exact ⟨d, fun h => absurd h h0⟩
end Go.Pl
/- Which nodes can be reached. -/
namespace Go.Pl
open Go.RT
set_option linter.all false
inductive Rch (l : List Edg) (a : Int) : Int → Prop where
  | here : Rch l a a
  | step (e : Edg) : e ∈ l → Rch l a e.f → Rch l a e.t
open Classical in
/-- how many are marked -/
def cntT (l : List Bool) : Nat := l.countP (· == true)
theorem cntT_set {l : List Bool} {v : Nat} (h : l[v]? = some false) : cntT (l.set v true) = cntT l + 1 := by
  obtain ⟨hv, he⟩ := List.getElem?_eq_some_iff.1 h
  induction l generalizing v with
  | nil => simp at hv
  | cons x l ih =>
    cases v with
    | zero => simp at he; subst he; simp [cntT]
    | succ v =>
      have hv2 : v < l.length := by simpa using hv
      have := ih (by simpa using h) hv2 (by simpa using he)
      unfold cntT at *
      simp only [List.set_cons_succ, List.countP_cons, this]; omega
open Go.RT
open Classical in
/-- what the search knows -/
structure Bfs (g : Gr) (a : Int) (out : List Bool) (l : List Int) (i : Nat) : Prop where
  len : out.length = (g.r + g.n).toNat
  from_ : out[a.toNat]? = some true
  i_le : i ≤ l.length
  mem : ∀ x ∈ l, 0 ≤ x ∧ x < g.r + g.n ∧ out[x.toNat]? = some true ∧ Rch g.es a x
  all : ∀ v : Nat, out[v]? = some true → (v : Int) ∈ l
  cnt : l.length = cntT out
  done : ∀ x ∈ l.take i, ∀ e ∈ g.es, e.f = x → out[e.t.toNat]? = some true
theorem set_true {out : List Bool} {v w : Nat} (h : out[w]? = some true) : (out.set v true)[w]? = some true := by
  rw [List.getElem?_set]
  obtain ⟨h1, _⟩ := List.getElem?_eq_some_iff.1 h
  split
  · rename_i e; subst e; rw [if_pos h1]
  · exact h
theorem Bfs.next {g : Gr} {a : Int} {out : List Bool} {l : List Int} {i : Nat} (h : Bfs g a out l i) {x : Int} (hx : l[i]? = some x) (hd : ∀ y ∈ nextI x g.es, out[y.toNat]? = some true) : Bfs g a out l (i + 1) := by
  obtain ⟨hi, hxe⟩ := List.getElem?_eq_some_iff.1 hx
  refine ⟨h.len, h.from_, hi, h.mem, h.all, h.cnt, fun y hy e he1 he2 => ?_⟩
  rw [List.take_succ_eq_append_getElem hi] at hy
  rcases List.mem_append.1 hy with hy | hy
  · exact h.done y hy e he1 he2
  · have : y = x := by simpa [hxe] using hy
    exact hd e.t (((nextI_spec x g.es).2 e.t).2 ⟨e, he1, by omega, rfl⟩)
theorem Bfs.start {g : Gr} {k : Nat} (hk : (k : Int) < g.r + g.n) : Bfs g k ((List.replicate (g.r + g.n).toNat false).set k true) [(k : Int)] 0 := by
  have hf : (List.replicate (g.r + g.n).toNat false)[k]? = some false := by rw [List.getElem?_replicate, if_pos (by omega)]
  have h0 : cntT (List.replicate (g.r + g.n).toNat false) = 0 := by
    unfold cntT; rw [List.countP_eq_zero]; intro b hb; rw [List.eq_of_mem_replicate hb]; simp
  have hkk : ((List.replicate (g.r + g.n).toNat false).set k true)[k]? = some true := by rw [List.getElem?_set, if_pos rfl, if_pos (by simp; omega)]
  refine ⟨by simp, by simpa using hkk, by simp, fun x hx => ?_, fun v hv => ?_, by rw [cntT_set hf, h0]; rfl, fun x hx => by simp at hx⟩
  · have : x = k := by simpa using hx
    subst this
    exact ⟨by omega, hk, by simpa using hkk, .here⟩
  · rw [List.getElem?_set] at hv
    split at hv
    · rename_i e; subst e; simp
    · rw [List.getElem?_replicate] at hv; split at hv <;> simp at hv
end Go.Pl
/- The reference's search: passes over all edges. -/
namespace Go.Pl
open Go.RT
set_option linter.all false
/-- one edge of a pass -/
def passE (out : List Bool) (e : Edg) : List Bool := if out[e.f.toNat]? = some true then out.set e.t.toNat true else out
def pass (es : List Edg) (out : List Bool) : List Bool := es.foldl passE out
theorem passE_len (out : List Bool) (e : Edg) : (passE out e).length = out.length := by unfold passE; split <;> simp
theorem pass_len : ∀ (es : List Edg) (out : List Bool), (pass es out).length = out.length
  | [], out => rfl
  | e :: es, out => by
    show (pass es (passE out e)).length = _
    rw [pass_len es, passE_len]
theorem passE_mono {out : List Bool} {e : Edg} {v : Nat} (h : out[v]? = some true) : (passE out e)[v]? = some true := by
  unfold passE; split
  · exact set_true h
  · exact h
theorem pass_mono : ∀ {es : List Edg} {out : List Bool} {v : Nat}, out[v]? = some true → (pass es out)[v]? = some true
  | [], out, v, h => h
  | e :: es, out, v, h => pass_mono (es := es) (passE_mono h)
theorem cntT_cons (x : Bool) (l : List Bool) : cntT (x :: l) = cntT l + if x = true then 1 else 0 := by
  unfold cntT; rw [List.countP_cons]; cases x <;> rfl
theorem cnt_mono : ∀ {a b : List Bool}, a.length = b.length → (∀ v : Nat, a[v]? = some true → b[v]? = some true) → cntT a ≤ cntT b ∧ (cntT a = cntT b → a = b)
  | [], [], _, _ => ⟨Nat.le_refl _, fun _ => rfl⟩
  | [], _ :: _, h, _ => by simp at h
  | _ :: _, [], h, _ => by simp at h
  | x :: a, y :: b, hl, h => by
    obtain ⟨i1, i2⟩ := cnt_mono (a := a) (b := b) (by simpa using hl) (fun v hv => by simpa using h (v + 1) (by simpa using hv))
    have h0 := h 0
    simp only [List.getElem?_cons_zero, Option.some.injEq] at h0
    rw [cntT_cons, cntT_cons]
    cases x <;> cases y
    · exact ⟨by simpa using i1, fun hh => by rw [i2 (by simpa using hh)]⟩
    · exact ⟨by simp; omega, fun hh => by simp at hh; omega⟩
    · simp at h0
    · exact ⟨by simpa using i1, fun hh => by rw [i2 (by simpa using hh)]⟩
/-- a pass that changes nothing: closed under the edges -/
theorem pass_fix : ∀ {es : List Edg} {out : List Bool}, pass es out = out → (∀ e ∈ es, 0 ≤ e.t ∧ e.t.toNat < out.length) → ∀ e ∈ es, out[e.f.toNat]? = some true → out[e.t.toNat]? = some true := by
  intro es out h hin
  -- every prefix of the pass leaves the list as it is
  have key : ∀ (es : List Edg) (out o : List Bool), o.length = out.length → (∀ v : Nat, out[v]? = some true → o[v]? = some true) → pass es o = out → (∀ e ∈ es, 0 ≤ e.t ∧ e.t.toNat < out.length) → o = out ∧ ∀ e ∈ es, out[e.f.toNat]? = some true → out[e.t.toNat]? = some true := by
    intro es
    induction es with
    | nil => intro out o _ _ h _; exact ⟨h, fun e he => by cases he⟩
    | cons e es ih =>
      intro out o hl hm hp hin
      have hp' : pass es (passE o e) = out := hp
      obtain ⟨i1, i2⟩ := ih out (passE o e) (by rw [passE_len]; exact hl) (fun v hv => passE_mono (hm v hv)) hp' (fun e' he' => hin e' (List.mem_cons_of_mem _ he'))
      have hle : ∀ v : Nat, o[v]? = some true → out[v]? = some true := fun v hv => by rw [← i1]; exact passE_mono hv
      have hoe : o = out := by
        have c1 := (cnt_mono hl hle)
        have c2 := (cnt_mono hl.symm hm)
        exact c1.2 (Nat.le_antisymm c1.1 c2.1)
      refine ⟨hoe, fun e' he' hf => ?_⟩
      rcases List.mem_cons.1 he' with rfl | he'
      · subst hoe
        unfold passE at i1
        rw [if_pos hf] at i1
        have := hin e' (List.mem_cons_self ..)
        rw [← i1, List.getElem?_set, if_pos rfl, if_pos this.2]
      · exact i2 e' he' hf
  exact (key es out out rfl (fun v h => h) h hin).2
/-- what the passes keep -/
structure Pas (g : Gr) (a : Int) (out : List Bool) : Prop where
  len : out.length = (g.r + g.n).toNat
  from_ : out[a.toNat]? = some true
  sound : ∀ v : Nat, out[v]? = some true → Rch g.es a (v : Int)
theorem Pas.stepE {g : Gr} {a : Int} {out : List Bool} {e : Edg} (h : Pas g a out) (he : e ∈ g.es) (h0 : 0 ≤ e.f ∧ 0 ≤ e.t) : Pas g a (passE out e) := by
  refine ⟨by rw [passE_len]; exact h.len, passE_mono h.from_, fun v hv => ?_⟩
  unfold passE at hv
  split at hv
  · rename_i hf
    rw [List.getElem?_set] at hv
    split at hv
    · rename_i e2
      have := h.sound _ hf
      rw [Int.toNat_of_nonneg h0.1] at this
      rw [← e2, Int.toNat_of_nonneg h0.2]
      exact .step e he this
    · exact h.sound v hv
  · exact h.sound v hv
theorem Pas.pass {g : Gr} {a : Int} : ∀ {es : List Edg} {out : List Bool}, Pas g a out → (∀ e ∈ es, e ∈ g.es ∧ 0 ≤ e.f ∧ 0 ≤ e.t) → Pas g a (Pl.pass es out)
  | [], out, h, _ => h
  | e :: es, out, h, he => Pas.pass (es := es) (h.stepE (he e (List.mem_cons_self ..)).1 (he e (List.mem_cons_self ..)).2) (fun e' h' => he e' (List.mem_cons_of_mem _ h'))
/-- after k passes: closed, or more than k nodes marked -/
def Far (g : Gr) (out : List Bool) (k : Nat) : Prop := (∀ e ∈ g.es, out[e.f.toNat]? = some true → out[e.t.toNat]? = some true) ∨ k + 1 ≤ cntT out
theorem Far.next {g : Gr} {out : List Bool} {k : Nat} (h : Far g out k) (hin : ∀ e ∈ g.es, 0 ≤ e.t ∧ e.t.toNat < out.length) : Far g (pass g.es out) (k + 1) := by
  by_cases hf : pass g.es out = out
  · rw [hf]; exact .inl (pass_fix hf hin)
  · have hc := cnt_mono (a := out) (b := pass g.es out) (pass_len _ _).symm (fun v => pass_mono)
    have hlt : cntT out < cntT (pass g.es out) := by
      rcases Nat.lt_or_ge (cntT out) (cntT (pass g.es out)) with h1 | h1
      · exact h1
      · exact absurd (hc.2 (by omega)).symm hf
    rcases h with h | h
    · -- closed already: a pass changes nothing
      exfalso
      apply hf
      have : ∀ (es : List Edg), (∀ e ∈ es, e ∈ g.es) → pass es out = out := by
        intro es
        induction es with
        | nil => exact fun _ => rfl
        | cons e es ih =>
          intro hes
          have hee := hes e (List.mem_cons_self ..)
          have he : passE out e = out := by
            unfold passE
            split
            · rename_i ht
              have hh := h e hee ht
              obtain ⟨q1, q2⟩ := List.getElem?_eq_some_iff.1 hh
              rw [← q2]; exact List.set_getElem_self q1
            · rfl
          show pass es (passE out e) = out
          rw [he]; exact ih fun e' h' => hes e' (List.mem_cons_of_mem _ h')
      exact this g.es fun e h => h
    · exact .inr (by omega)
end Go.Pl
/- The valid graph of edges, as the reference puts it together. -/
namespace Go.Pl
open Go.RT
set_option linter.all false
end Go.Pl
/- Elements that a test holds for are dropped. -/
namespace Go.Pl
set_option linter.all false
def keepL {α : Type} (p : α → Bool) (l : List α) : List α := l.filter fun x => !p x
def idxAt {α : Type} (p : α → Bool) : Nat → List α → Int
  | _, [] => -1
  | k, x :: l => bif p x then (k : Int) else idxAt p (k + 1) l
theorem idxAt_spec {α : Type} (p : α → Bool) : ∀ (l : List α) (k : Nat), (idxAt p k l = -1 ∧ keepL p l = l) ∨ ∃ j : Nat, ∃ h : j < l.length, idxAt p k l = ((k + j : Nat) : Int) ∧ p l[j] = true ∧ keepL p (l.take j) = l.take j
  | [], k => .inl ⟨rfl, rfl⟩
  | x :: l, k => by
    cases hx : p x with
    | true => exact .inr ⟨0, by simp, by simp [idxAt, hx], by simpa using hx, by simp [keepL]⟩
    | false =>
      have e : idxAt p k (x :: l) = idxAt p (k + 1) l := by simp [idxAt, hx]
      rw [e]
      rcases idxAt_spec p l (k + 1) with ⟨h1, h2⟩ | ⟨j, hj, h1, h2, h3⟩
      · refine .inl ⟨h1, ?_⟩
        unfold keepL at *; simp [hx, h2]
      · refine .inr ⟨j + 1, by simpa using hj, by rw [h1]; omega, by simpa using h2, ?_⟩
        unfold keepL at *; simp [hx, h3]
theorem keep_len {α : Type} (p : α → Bool) (l : List α) : (keepL p l).length ≤ l.length := List.length_filter_le _ _
theorem keep_take {α : Type} (p : α → Bool) (l : List α) (n : Nat) (h : n < l.length) : keepL p (l.take (n + 1)) = keepL p (l.take n) ++ bif p l[n] then [] else [l[n]] := by
  unfold keepL
  rw [List.take_succ_eq_append_getElem h, List.filter_append]
  congr 1
  cases hp : p l[n] <;> simp [hp]
theorem keep_len_lt {α : Type} (p : α → Bool) (l : List α) (j : Nat) (h : j < l.length) (hp : p l[j] = true) (n : Nat) (hn : j < n) (hnl : n ≤ l.length) : (keepL p (l.take n)).length < n := by
  obtain ⟨d, rfl⟩ : ∃ d, n = j + 1 + d := ⟨n - (j + 1), by omega⟩
  clear hn
  induction d with
  | zero =>
    rw [Nat.add_zero, keep_take p l j h, hp, cond_true, List.append_nil]
    have := keep_len p (l.take j)
    simp at this; omega
  | succ d ih =>
    have := ih (by omega)
    rw [← Nat.add_assoc, keep_take p l (j + 1 + d) (by omega), List.length_append]
    cases p l[j + 1 + d] <;> simp <;> omega
end Go.Pl
namespace Go.Pl
set_option linter.all false
/-- binary search: the least place in [i, j) whose element is not below -/
def bsGo {α : Type} (p : α → Bool) (l : List α) (i j : Nat) : Nat :=
  if h : i < j then
    (if h2 : (i + j) / 2 < l.length then
      (bif p l[(i + j) / 2] then bsGo p l ((i + j) / 2 + 1) j else bsGo p l i ((i + j) / 2))
    else i)
  else i
termination_by j - i
theorem bsGo_end {α : Type} (p : α → Bool) (l : List α) (i : Nat) : bsGo p l i i = i := by
  rw [bsGo]; simp
theorem bsGo_step {α : Type} (p : α → Bool) (l : List α) (i j : Nat) (h : i < j) (hj : j ≤ l.length) :
    bsGo p l i j = (bif p (l[(i + j) / 2]'(by omega)) then bsGo p l ((i + j) / 2 + 1) j else bsGo p l i ((i + j) / 2)) := by
  rw [bsGo]; simp [h, show (i + j) / 2 < l.length by omega]
def hitAt {α : Type} (p : α → Bool) (l : List α) (i : Nat) : Bool := match l[i]? with | some e => p e | none => false
theorem bsGo_le {α : Type} (p : α → Bool) (l : List α) : ∀ (n i j : Nat), j - i ≤ n → i ≤ j → j ≤ l.length → i ≤ bsGo p l i j ∧ bsGo p l i j ≤ j
  | n, i, j, hn, hi, hj => by
    rw [bsGo]
    by_cases h : i < j
    · have hm : (i + j) / 2 < l.length := by omega
      simp only [h, hm, dif_pos]
      cases n with
      | zero => omega
      | succ n =>
        cases p l[(i + j) / 2] with
        | true => have := bsGo_le p l n ((i + j) / 2 + 1) j (by omega) (by omega) hj; simp only [cond_true]; omega
        | false => have := bsGo_le p l n i ((i + j) / 2) (by omega) (by omega) (by omega); simp only [cond_false]; omega
    · simp only [h, dif_neg, not_false_eq_true]; omega
/-- over a list on which p is first true and then false -/
theorem bsGo_spec {α : Type} (p : α → Bool) (l : List α) (hm : ∀ a b (ha : a < b) (hb : b < l.length), p l[b] = true → p (l[a]'(by omega)) = true) :
    ∀ (n i j : Nat), j - i ≤ n → (hi : i ≤ j) → (hj : j ≤ l.length) →
      (∀ k (hk : k < i), p (l[k]'(by omega)) = true) → (∀ k (hk : j ≤ k) (hl : k < l.length), p l[k] = false) →
      (∀ k (hk : k < bsGo p l i j) (hl : k < l.length), p l[k] = true) ∧ (∀ k (hk : bsGo p l i j ≤ k) (hl : k < l.length), p l[k] = false)
  | n, i, j, hn, hi, hj, h1, h2 => by
    rw [bsGo]
    by_cases h : i < j
    · have hmm : (i + j) / 2 < l.length := by omega
      simp only [h, hmm, dif_pos]
      cases n with
      | zero => omega
      | succ n =>
        cases hp : p l[(i + j) / 2] with
        | true =>
          simp only [cond_true]
          refine bsGo_spec p l hm n ((i + j) / 2 + 1) j (by omega) (by omega) hj ?_ h2
          intro k hk
          by_cases e : k = (i + j) / 2
          · subst e; exact hp
          · exact hm k ((i + j) / 2) (by omega) hmm hp
        | false =>
          simp only [cond_false]
          refine bsGo_spec p l hm n i ((i + j) / 2) (by omega) (by omega) (by omega) h1 ?_
          intro k hk hl
          by_cases e : k = (i + j) / 2
          · subst e; exact hp
          · cases hq : p l[k] with
            | false => rfl
            | true => have := hm ((i + j) / 2) k (by omega) hl hq; rw [hp] at this; exact absurd this (by simp)
    · simp only [h, dif_neg, not_false_eq_true]
      have : i = j := by omega
      exact ⟨fun k hk _ => h1 k hk, fun k hk hl => h2 k (by omega) hl⟩
end Go.Pl
namespace Go.Pl
theorem hitAt_eq {α : Type} [Inhabited α] (l : List α) (i : Nat) (p : α → Bool) : ∃ q, (i < l.length → l[i]? = some q) ∧ hitAt p l i = (decide ((i : Int) < (l.length : Int)) && p q) := by
  by_cases h : i < l.length
  · exact ⟨l[i], fun _ => List.getElem?_eq_getElem h, by simp [hitAt, h]⟩
  · exact ⟨default, fun h' => absurd h' h, by simp [hitAt, h]⟩
open Go.RT
def zE : Edg := ⟨0, 0, 0⟩
end Go.Pl
namespace Go.Pl
set_option linter.all false
/-- x put in ahead of place i -/
def insL {α : Type} (l : List α) (i : Nat) (x : α) : List α := l.take i ++ x :: l.drop i
theorem insL_len {α : Type} (l : List α) (i : Nat) (x : α) (h : i ≤ l.length) : (insL l i x).length = l.length + 1 := by simp [insL]; omega
theorem insL_map {α β : Type} (f : α → β) (l : List α) (i : Nat) (x : α) : (insL l i x).map f = insL (l.map f) i (f x) := by simp [insL]
/-- the rows behind the copies of slices.Insert, where it grows -/
theorem ins_grow {β : Type} (l : List β) (i : Nat) (x z : β) (h : i < l.length) :
    (((l.take i ++ List.replicate (l.length + 1 - i) z).take i ++ [x] ++ (l.take i ++ List.replicate (l.length + 1 - i) z).drop (i + 1)).take (i + 1) ++ l.drop i ++
      ((l.take i ++ List.replicate (l.length + 1 - i) z).take i ++ [x] ++ (l.take i ++ List.replicate (l.length + 1 - i) z).drop (i + 1)).drop (i + 1 + (l.length - i))) = insL l i x := by
  have h1 : (l.take i).length = i := by simp; omega
  have e1 : (l.take i ++ List.replicate (l.length + 1 - i) z).take i = l.take i := by rw [List.take_append_of_le_length (by omega), List.take_take]; simp
  rw [e1]
  generalize hd : (l.take i ++ List.replicate (l.length + 1 - i) z).drop (i + 1) = d
  have hdl : d.length = l.length - i := by rw [← hd]; simp; omega
  have h2 : (l.take i ++ [x]).length = i + 1 := by simp; omega
  have e2 : (l.take i ++ [x] ++ d).take (i + 1) = l.take i ++ [x] := by rw [List.take_append_of_le_length (by omega), List.take_of_length_le (by omega)]
  have e3 : (l.take i ++ [x] ++ d).drop (i + 1 + (l.length - i)) = [] := List.drop_of_length_le (by rw [List.length_append, h2, hdl]; omega)
  rw [e2, e3]
  simp [insL]
/-- .. where there is room -/
theorem ins_room {β : Type} (l : List β) (i : Nat) (x : β) (h : i < l.length) :
    ((l.take (i + 1) ++ l.drop i ++ l.drop (i + 1 + (l.length - i))).take i ++ [x] ++ (l.take (i + 1) ++ l.drop i ++ l.drop (i + 1 + (l.length - i))).drop (i + 1)) = insL l i x := by
  have e0 : l.drop (i + 1 + (l.length - i)) = [] := List.drop_of_length_le (by omega)
  have h1 : (l.take (i + 1)).length = i + 1 := by simp; omega
  rw [e0, List.append_nil]
  have e1 : (l.take (i + 1) ++ l.drop i).take i = l.take i := by rw [List.take_append_of_le_length (by omega), List.take_take, Nat.min_eq_left (by omega)]
  have e2 : (l.take (i + 1) ++ l.drop i).drop (i + 1) = l.drop i := by rw [List.drop_append_of_le_length (by omega), List.drop_of_length_le (by omega)]; rfl
  rw [e1, e2]
  simp [insL]
theorem hitAt_lt {α : Type} {p : α → Bool} {l : List α} {i : Nat} (h : hitAt p l i = true) : ∃ h : i < l.length, p l[i] = true := by
  unfold hitAt at h
  cases hi : l[i]? with
  | none => rw [hi] at h; cases h
  | some e =>
    rw [hi] at h
    obtain ⟨h1, h2⟩ := List.getElem?_eq_some_iff.1 hi
    exact ⟨h1, by rw [h2]; exact h⟩
end Go.Pl
/- Label distribution: messages, labels, bindings, states. No program in sight. -/
namespace Go.Pl
open Go Go.RT
set_option linter.all false
structure Rg where
  f : Int
  t : Int
  deriving DecidableEq
structure Bnd where
  px : Pfx
  pe : Int
  la : Int
  deriving DecidableEq
structure Fec where
  px : Pfx
  lo : Bool
  hs : List Int
  deriving DecidableEq
structure Msg where
  k : Int
  px : Pfx
  la : Int
  deriving DecidableEq
structure Snd where
  pe : Int
  da : List Int
  deriving DecidableEq
structure Lst where
  ro : Int
  fr : List Rg
  lc : List Bnd
  rm : List Bnd
  ps : List Int
  rt : List Fec
  deriving DecidableEq
structure Lev where
  k : Int
  pe : Int
  da : List Int
  rt : List Fec
  deriving DecidableEq
structure LHo where
  ro : Int
  la : Int
  deriving DecidableEq
structure LEn where
  i : Int
  hs : List LHo
  deriving DecidableEq
def encRg (r : Rg) : List FV := [If .i64 r.f, If .i64 r.t]
abbrev VRg (l : List Rg) : FV := .vals 2 (l.map encRg)
def encBn (b : Bnd) : List FV := [If .u32 b.px.addr, If .i64 b.px.len, If .u32 b.pe, If .i64 b.la]
abbrev VBn (l : List Bnd) : FV := .vals 4 (l.map encBn)
def encFe (x : Fec) : List FV := [If .u32 x.px.addr, If .i64 x.px.len, Bf x.lo, VW x.hs]
abbrev VFe (l : List Fec) : FV := .vals 4 (l.map encFe)
def encMs (m : Msg) : List FV := [If .i64 m.k, If .u32 m.px.addr, If .i64 m.px.len, If .i64 m.la]
def encSn (s : Snd) : List FV := [If .u32 s.pe, VY s.da]
abbrev VSn (l : List Snd) : FV := .vals 2 (l.map encSn)
def encLs (s : Lst) : List FV := [If .u32 s.ro, VRg s.fr, VBn s.lc, VBn s.rm, VW s.ps, VFe s.rt]
def encEv (e : Lev) : List FV := [If .i64 e.k, If .u32 e.pe, VY e.da, VFe e.rt]
def encLh (h : LHo) : List FV := [If .u32 h.ro, If .i64 h.la]
abbrev VLh (l : List LHo) : FV := .vals 2 (l.map encLh)
def encLe (e : LEn) : List FV := [If .i64 e.i, VLh e.hs]
abbrev VLe (l : List LEn) : FV := .vals 2 (l.map encLe)
/-! messages -/
def msgE (m : Msg) : Int :=
  if (decide (m.k < 1) || decide (4 < m.k)) = true then 15 else if (!validB m.px) = true then 1 else
  if (decide (m.k = 4) && decide (m.la ≠ 0)) = true then 5 else if (decide (m.k ≠ 4) && decide (m.la ≠ 3) && (decide (m.la < 16) || decide (1048575 < m.la))) = true then 5 else 0
def be4 (n : Int) : List Int := [n / 16777216 % 256, n / 65536 % 256, n / 256 % 256, n % 256]
def encMb (m : Msg) : List Int := [m.k % 256, m.px.len % 256] ++ be4 m.px.addr ++ if m.k ≠ 4 then be4 m.la else []
def encodeF (m : Msg) : List Int × Int := if msgE m ≠ 0 then ([], msgE m) else (encMb m, 0)
def zMsg : Msg := ⟨0, ⟨0, 0⟩, 0⟩
def num4 (b : List Int) (i : Nat) : Int := ((b.drop i).take 4).foldl (fun x c => x * 256 + c) 0
def rawM (b : List Int) : Msg := ⟨b.getD 0 0, ⟨(num4 b 2).toNat, b.getD 1 0⟩, if b.getD 0 0 = 4 then 0 else num4 b 6⟩
def sizeM (k : Int) : Nat := if k = 4 then 6 else 10
def decodeF (b : List Int) : Msg × Int :=
  if b.length = 0 then (zMsg, 3) else
  if (decide (b.getD 0 0 < 1) || decide (4 < b.getD 0 0)) = true then (zMsg, 15) else
  if b.length < sizeM (b.getD 0 0) then (zMsg, 3) else if sizeM (b.getD 0 0) < b.length then (zMsg, 2) else
  if msgE (rawM b) ≠ 0 then (zMsg, msgE (rawM b)) else (rawM b, 0)
/-! free labels -/
def badG : Option Rg → Rg → Bool
  | none, _ => false
  | some q, r => decide (r.f ≤ q.t + 1)
def rgE (r : Rg) : Int := if (decide (r.f < 16) || decide (1048575 < r.t)) = true then 5 else if r.t < r.f then 1 else 0
def chkG : Option Rg → List Rg → Int
  | _, [] => 0
  | p, r :: t => if rgE r ≠ 0 then rgE r else if badG p r = true then 16 else chkG (some r) t
def lblE (l : List Rg) : Int := chkG none l
def inG (n : Int) (r : Rg) : Bool := decide (r.f ≤ n) && decide (n ≤ r.t)
def hasG (l : List Rg) (n : Int) : Bool := decide (lblE l = 0) && l.any (inG n)
def takeL : List Rg → List Rg
  | [] => []
  | r :: t => if r.f = r.t then t else ⟨r.f + 1, r.t⟩ :: t
def takeF (l : List Rg) : Int × List Rg × Int :=
  if lblE l ≠ 0 then (0, [], lblE l) else match l with | [] => (0, [], 8) | r :: t => (r.f, takeL (r :: t), 0)
/-- the runs with a label put in -/
def giveL (l : List Rg) (n : Int) : List Rg :=
  match l with
  | [] => [⟨n, n⟩]
  | r :: t => if r.t < n - 1 then r :: giveL t n else
    if r.t = n - 1 then (match t with | [] => [⟨r.f, n⟩] | q :: u => if q.f = n + 1 then ⟨r.f, q.t⟩ :: u else ⟨r.f, n⟩ :: q :: u) else
    if r.f = n + 1 then ⟨n, r.t⟩ :: t else ⟨n, n⟩ :: r :: t
def giveF (l : List Rg) (n : Int) : List Rg × Int :=
  if lblE l ≠ 0 then ([], lblE l) else if (decide (n < 16) || decide (1048575 < n)) = true then ([], 5) else if l.any (inG n) = true then ([], 7) else (giveL l n, 0)
/-! bindings -/
def isBn (p : Pfx) (n : Int) (b : Bnd) : Bool := decide (b.px = p) && decide (b.pe = n)
def findB (l : List Bnd) (p : Pfx) (n : Int) : Option Int := (l.find? (isBn p n)).map (·.la)
def unbL (l : List Bnd) (p : Pfx) (n : Int) : List Bnd := l.filter fun b => !isBn p n b
def grB (a b : Bnd) : Bool := decide (0 < cmpP a.px b.px) || decide (cmpP a.px b.px = 0) && decide (b.pe < a.pe)
def insB (b : Bnd) : List Bnd → List Bnd
  | [] => [b]
  | x :: t => if grB x b = true then b :: x :: t else x :: insB b t
def bindL (l : List Bnd) (b : Bnd) : List Bnd := insB b (unbL l b.px b.pe)
/-! routes -/
def hopX (r h : Int) : Bool := decide (h = 0) || decide (h = r)
def leI : Option Int → Int → Bool
  | none, _ => false
  | some q, x => decide (x ≤ q)
def ascI : Option Int → List Int → Int
  | _, [] => 0
  | p, x :: t => if leI p x = true then 16 else ascI (some x) t
def hopsE (r : Int) (l : List Int) : Int := if 64 < l.length then 4 else if l.any (hopX r) = true then 5 else ascI none l
def badX : Option Fec → Fec → Bool
  | none, _ => false
  | some q, x => decide (0 ≤ cmpP q.px x.px)
def rtsE (r : Int) : Option Fec → List Fec → Int
  | _, [] => 0
  | p, x :: t => if (!validB x.px) = true then 1 else if badX p x = true then 16 else if hopsE r x.hs ≠ 0 then hopsE r x.hs else rtsE r (some x) t
def routesE (r : Int) (l : List Fec) : Int := if 2000 < l.length then 4 else rtsE r none l
def routeF (l : List Fec) (p : Pfx) : Option Fec := l.find? fun x => decide (x.px = p)
/-! events -/
def msgS (n k : Int) (p : Pfx) (la : Int) : Snd := ⟨n, (encodeF ⟨k, p, la⟩).1⟩
def insI (n : Int) : List Int → List Int
  | [] => [n]
  | x :: t => if n < x then n :: x :: t else x :: insI n t
abbrev Res := Lst × List Snd × Int
def zLst : Lst := ⟨0, [], [], [], [], []⟩
def badR (e : Int) : Res := (zLst, [], e)
def upF (s : Lst) (n : Int) : Res :=
  if (decide (n = 0) || decide (n = s.ro)) = true then badR 5 else if s.ps.contains n = true then badR 7 else
  ({ s with ps := insI n s.ps }, s.lc.map fun b => msgS n 1 b.px b.la, 0)
def downF (s : Lst) (n : Int) : Res :=
  if s.ps.contains n = false then badR 6 else ({ s with ps := s.ps.filter fun x => decide (x ≠ n), rm := s.rm.filter fun b => decide (b.pe ≠ n) }, [], 0)
def dataF (s : Lst) (n : Int) (d : List Int) : Res :=
  if s.ps.contains n = false then badR 6 else if (decodeF d).2 ≠ 0 then badR (decodeF d).2 else
  let m := (decodeF d).1
  if m.k = 1 then ({ s with rm := bindL s.rm ⟨m.px, n, m.la⟩ }, [], 0) else
  if m.k = 2 then (if findB s.rm m.px n = some m.la then ({ s with rm := unbL s.rm m.px n }, [msgS n 3 m.px m.la], 0) else (s, [], 0)) else
  if m.k = 4 then (match findB s.lc m.px s.ro with | some la => (s, [msgS n 1 m.px la], 0) | none => (s, [], 0)) else (s, [], 0)
def okB (l : List Fec) (b : Bnd) : Bool := match routeF l b.px with | some x => decide (x.lo = decide (b.la = 3)) | none => false
/-- free labels, what is kept, what is sent -/
abbrev DSt := List Rg × List Bnd × List Snd
def dropS (ps : List Int) (l : List Fec) (s : DSt) (b : Bnd) : DSt :=
  if okB l b = true then (s.1, s.2.1 ++ [b], s.2.2) else (if b.la ≠ 3 then (giveF s.1 b.la).1 else s.1, s.2.1, s.2.2 ++ ps.map fun n => msgS n 2 b.px b.la)
/-- what the reference makes of what is free -/
def dropF (s : Lst) (l : List Fec) : DSt := s.lc.foldl (dropS s.ps l) (s.fr, [], [])
def bindS (r : Int) (ps : List Int) (s : DSt) (x : Fec) : DSt :=
  if (findB s.2.1 x.px r).isSome = true then s else
  if x.lo = true then (s.1, bindL s.2.1 ⟨x.px, r, 3⟩, s.2.2 ++ ps.map fun n => msgS n 1 x.px 3) else
  if (takeF s.1).2.2 ≠ 0 then s else ((takeF s.1).2.1, bindL s.2.1 ⟨x.px, r, (takeF s.1).1⟩, s.2.2 ++ ps.map fun n => msgS n 1 x.px (takeF s.1).1)
def bindF (s : Lst) (l : List Fec) (d : DSt) : DSt := l.foldl (bindS s.ro s.ps) d
def routesF (s : Lst) (l : List Fec) : Res :=
  if routesE s.ro l ≠ 0 then badR (routesE s.ro l) else
  let d := bindF s l (dropF s l)
  ({ s with fr := d.1, lc := d.2.1, rt := l }, d.2.2, 0)
def handleF (s : Lst) (e : Lev) : Res :=
  if e.k = 1 then upF s e.pe else if e.k = 2 then downF s e.pe else if e.k = 3 then dataF s e.pe e.da else if e.k = 4 then routesF s e.rt else badR 15
def newF (r : Int) (l : List Rg) : Lst × Int := if r = 0 then (zLst, 5) else if lblE l ≠ 0 then (zLst, lblE l) else (⟨r, l, [], [], [], []⟩, 0)
/-! what is forwarded -/
def hopsF (s : Lst) (p : Pfx) (l : List Int) : List LHo := l.filterMap fun h => (findB s.rm p h).map fun la => ⟨h, if la = 3 then -1 else la⟩
def outF (s : Lst) (p : Pfx) : List LHo := match routeF s.rt p with | some x => hopsF s p x.hs | none => []
def insE (e : LEn) : List LEn → List LEn
  | [] => [e]
  | x :: t => if e.i < x.i then e :: x :: t else x :: insE e t
def entrF (s : Lst) : List LEn := s.lc.foldl (fun o b => if b.la = 3 then o else insE ⟨b.la, outF s b.px⟩ o) []
end Go.Pl
/- Free labels. No program in sight. -/
namespace Go.Pl
open Go Go.RT
set_option linter.all false
def ltG (a b : Rg) : Prop := a.t + 1 < b.f
structure vR (r : Rg) : Prop where
  lo : 16 ≤ r.f
  le : r.f ≤ r.t
  hi : r.t ≤ 1048575
theorem rgE_iff (r : Rg) : rgE r = 0 ↔ vR r := by
  unfold rgE
  by_cases a : (decide (r.f < 16) || decide (1048575 < r.t)) = true
  · rw [if_pos a]; simp at a
    constructor
    · intro h; omega
    · intro h; have := h.lo; have := h.hi; omega
  · rw [if_neg a]; simp at a
    by_cases b : r.t < r.f
    · rw [if_pos b]
      constructor
      · intro h; omega
      · intro h; have := h.le; omega
    · rw [if_neg b]; exact ⟨fun _ => ⟨by omega, by omega, by omega⟩, fun _ => rfl⟩
theorem chkG_iff : ∀ (l : List Rg) (p : Option Rg), chkG p l = 0 ↔ (∀ r ∈ l, vR r) ∧ l.Pairwise ltG ∧ ∀ q, p = some q → ∀ r ∈ l, ltG q r
  | [], p => by simp [chkG]
  | r :: t, p => by
    simp only [chkG]
    by_cases a : rgE r = 0
    · rw [if_neg (by simpa using a)]
      by_cases b : badG p r = true
      · rw [if_pos b]
        constructor
        · intro h; cases h
        · rintro ⟨_, _, h⟩
          cases p with
          | none => cases b
          | some q => have := h q rfl r (List.mem_cons_self ..); simp [badG] at b; unfold ltG at this; omega
      · rw [if_neg b, chkG_iff t (some r)]
        have hv := (rgE_iff r).1 a
        constructor
        · rintro ⟨h1, h2, h3⟩
          refine ⟨fun x hx => ?_, List.pairwise_cons.2 ⟨fun x hx => h3 r rfl x hx, h2⟩, fun q hq x hx => ?_⟩
          · rcases List.mem_cons.1 hx with rfl | hx
            · exact hv
            · exact h1 x hx
          · subst hq
            have hqr : ltG q r := by simp [badG] at b; unfold ltG; omega
            rcases List.mem_cons.1 hx with rfl | hx
            · exact hqr
            · have := h3 r rfl x hx
              have := hv.le
              unfold ltG at *; omega
        · rintro ⟨h1, h2, h3⟩
          obtain ⟨h4, h5⟩ := List.pairwise_cons.1 h2
          exact ⟨fun x hx => h1 x (List.mem_cons_of_mem _ hx), h5, fun q hq x hx => by cases hq; exact h4 x hx⟩
    · rw [if_pos a]
      constructor
      · intro h; exact absurd h a
      · rintro ⟨h1, _⟩; exact absurd ((rgE_iff r).2 (h1 r (List.mem_cons_self ..))) a
/-- valid free labels -/
structure vG (l : List Rg) : Prop where
  v : ∀ r ∈ l, vR r
  a : l.Pairwise ltG
theorem lblE_iff (l : List Rg) : lblE l = 0 ↔ vG l := by
  unfold lblE
  rw [chkG_iff]
  exact ⟨fun ⟨h1, h2, _⟩ => ⟨h1, h2⟩, fun h => ⟨h.v, h.a, fun q hq => by cases hq⟩⟩
theorem vG.tl {r : Rg} {t : List Rg} (h : vG (r :: t)) : vG t := ⟨fun x hx => h.v x (List.mem_cons_of_mem _ hx), (List.pairwise_cons.1 h.a).2⟩
theorem vG.hd {r : Rg} {t : List Rg} (h : vG (r :: t)) : vR r ∧ ∀ x ∈ t, ltG r x := ⟨h.v r (List.mem_cons_self ..), (List.pairwise_cons.1 h.a).1⟩
theorem vG.cons {r : Rg} {t : List Rg} (hr : vR r) (hl : ∀ x ∈ t, ltG r x) (h : vG t) : vG (r :: t) := ⟨fun x hx => by rcases List.mem_cons.1 hx with rfl | hx; exact hr; exact h.v x hx, List.pairwise_cons.2 ⟨hl, h.a⟩⟩
theorem vG.nil : vG [] := ⟨by simp, List.Pairwise.nil⟩
/-- labels counted -/
def cntG (l : List Rg) : Int := (l.map fun r => r.t - r.f + 1).sum
def mG (l : List Rg) (n : Int) : Bool := l.any (inG n)
theorem mG_cons (r : Rg) (t : List Rg) (n : Int) : mG (r :: t) n = (inG n r || mG t n) := rfl
theorem inG_iff (n : Int) (r : Rg) : inG n r = true ↔ r.f ≤ n ∧ n ≤ r.t := by simp [inG]
theorem mG_iff (l : List Rg) (n : Int) : mG l n = true ↔ ∃ r ∈ l, r.f ≤ n ∧ n ≤ r.t := by
  unfold mG
  rw [List.any_eq_true]
  simp only [inG_iff]
theorem mG_rng {l : List Rg} (h : vG l) {n : Int} (hn : mG l n = true) : 16 ≤ n ∧ n ≤ 1048575 := by
  obtain ⟨r, hr, h1, h2⟩ := (mG_iff l n).1 hn
  have := (h.v r hr).lo; have := (h.v r hr).hi; omega
theorem takeL_ok {l : List Rg} (h : vG l) {r : Rg} {t : List Rg} (hl : l = r :: t) : vG (takeL l) ∧ (∀ n, mG (takeL l) n = (mG l n && !decide (n = r.f))) ∧ cntG (takeL l) = cntG l - 1 ∧ mG l r.f = true := by
  subst hl
  obtain ⟨hr, ht⟩ := h.hd
  have h1 := hr.lo; have h2 := hr.le; have h3 := hr.hi
  have hm : mG (r :: t) r.f = true := (mG_iff _ _).2 ⟨r, List.mem_cons_self .., by omega, by omega⟩
  have hnt : mG t r.f = false := by
    rw [Bool.eq_false_iff]
    intro hc
    obtain ⟨x, hx, k1, _⟩ := (mG_iff _ _).1 hc
    have := ht x hx
    unfold ltG at this; omega
  simp only [takeL]
  by_cases e : r.f = r.t
  · rw [if_pos e]
    refine ⟨h.tl, fun n => ?_, ?_, hm⟩
    · rw [mG_cons]
      by_cases k : n = r.f
      · subst k; simp [hnt]
      · have : inG n r = false := by simp [inG]; omega
        simp [this, k]
    · simp [cntG]; omega
  · rw [if_neg e]
    refine ⟨vG.cons ⟨by show 16 ≤ r.f + 1; omega, by show r.f + 1 ≤ r.t; omega, h3⟩ (fun x hx => ht x hx) h.tl, fun n => ?_, ?_, hm⟩
    · rw [mG_cons, mG_cons]
      by_cases k : n = r.f
      · subst k
        have : inG r.f ⟨r.f + 1, r.t⟩ = false := by simp [inG]; intro; omega
        simp [this, hnt]
      · have : inG n ⟨r.f + 1, r.t⟩ = inG n r := by
          rw [Bool.eq_iff_iff, inG_iff, inG_iff]
          show r.f + 1 ≤ n ∧ n ≤ r.t ↔ _
          omega
        simp [this, k]
    · simp [cntG]; omega
theorem giveL_ok : ∀ {l : List Rg} {n : Int}, vG l → 16 ≤ n → n ≤ 1048575 → mG l n = false → vG (giveL l n) ∧ (∀ x, mG (giveL l n) x = (mG l x || decide (x = n))) ∧ cntG (giveL l n) = cntG l + 1 ∧ ∀ q : Rg, vR q → (∀ r ∈ l, ltG q r) → q.t + 1 < n → ∀ r ∈ giveL l n, ltG q r
  | [], n, _, h1, h2, _ => by
    refine ⟨vG.cons ⟨h1, Int.le_refl _, h2⟩ (by simp) vG.nil, fun x => ?_, by simp [giveL, cntG], fun q _ _ hq r hr => ?_⟩
    · rw [Bool.eq_iff_iff]; simp [giveL, mG, inG]; omega
    · simp [giveL] at hr; subst hr; exact hq
  | r :: t, n, h, h1, h2, h3 => by
    obtain ⟨hr, ht⟩ := h.hd
    have r1 := hr.lo; have r2 := hr.le; have r3 := hr.hi
    rw [mG_cons, Bool.or_eq_false_iff] at h3
    have h3' : ¬ (r.f ≤ n ∧ n ≤ r.t) := fun k => by rw [(inG_iff n r).2 k] at h3; cases h3.1
    simp only [giveL]
    by_cases a : r.t < n - 1
    · rw [if_pos a]
      obtain ⟨k1, k2, k3, k4⟩ := giveL_ok h.tl h1 h2 h3.2
      refine ⟨vG.cons hr (k4 r hr ht (by omega)) k1, fun x => ?_, ?_, fun q hq hql hqn y hy => ?_⟩
      · rw [mG_cons, mG_cons, k2, Bool.or_assoc]
      · simp [cntG] at k3 ⊢; omega
      · rcases List.mem_cons.1 hy with rfl | hy
        · exact hql _ (List.mem_cons_self ..)
        · exact k4 q hq (fun z hz => hql z (List.mem_cons_of_mem _ hz)) hqn y hy
    · rw [if_neg a]
      by_cases b : r.t = n - 1
      · rw [if_pos b]
        cases t with
        | nil =>
          refine ⟨vG.cons ⟨r1, by show r.f ≤ n; omega, h2⟩ (by simp) vG.nil, fun x => ?_, by simp [cntG]; omega, fun q _ hql hqn y hy => ?_⟩
          · rw [Bool.eq_iff_iff]; simp [mG, inG]; omega
          · have := hql r (List.mem_cons_self ..)
            simp at hy; subst hy; exact this
        | cons q u =>
          have hrq := ht q (List.mem_cons_self ..)
          obtain ⟨hq, hu⟩ := h.tl.hd
          have q1 := hq.lo; have q2 := hq.le; have q3 := hq.hi
          unfold ltG at hrq
          dsimp only
          by_cases c : q.f = n + 1
          · rw [if_pos c]
            refine ⟨vG.cons ⟨r1, by show r.f ≤ q.t; omega, q3⟩ (fun x hx => hu x hx) h.tl.tl, fun x => ?_, by simp [cntG]; omega, fun q' hq' hql hqn y hy => ?_⟩
            · rw [mG_cons, mG_cons, mG_cons, ← Bool.or_assoc, Bool.or_assoc (inG x r || inG x q), Bool.or_comm (mG u x), ← Bool.or_assoc]
              congr 1
              rw [Bool.eq_iff_iff]; simp [inG]; omega
            · rcases List.mem_cons.1 hy with rfl | hy
              · exact hql r (List.mem_cons_self ..)
              · exact hql y (List.mem_cons_of_mem _ (List.mem_cons_of_mem _ hy))
          · rw [if_neg c]
            refine ⟨vG.cons ⟨r1, by show r.f ≤ n; omega, h2⟩ (fun x hx => ?_) h.tl, fun x => ?_, by simp [cntG]; omega, fun q' hq' hql hqn y hy => ?_⟩
            · show n + 1 < x.f
              rcases List.mem_cons.1 hx with rfl | hx
              · omega
              · have := hu x hx; unfold ltG at this; omega
            · rw [mG_cons, mG_cons r, Bool.or_assoc, Bool.or_comm (mG (q :: u) x), ← Bool.or_assoc]
              congr 1
              rw [Bool.eq_iff_iff]; simp [inG]; omega
            · rcases List.mem_cons.1 hy with rfl | hy
              · exact hql r (List.mem_cons_self ..)
              · exact hql y (List.mem_cons_of_mem _ hy)
      · rw [if_neg b]
        have hf : n < r.f := by omega
        by_cases c : r.f = n + 1
        · rw [if_pos c]
          refine ⟨vG.cons ⟨h1, by show n ≤ r.t; omega, r3⟩ (fun x hx => ht x hx) h.tl, fun x => ?_, by simp [cntG]; omega, fun q' hq' hql hqn y hy => ?_⟩
          · rw [mG_cons, mG_cons, Bool.or_assoc, Bool.or_comm (mG t x), ← Bool.or_assoc]
            congr 1
            rw [Bool.eq_iff_iff]; simp [inG]; omega
          · rcases List.mem_cons.1 hy with rfl | hy
            · exact hqn
            · exact hql y (List.mem_cons_of_mem _ hy)
        · rw [if_neg c]
          refine ⟨vG.cons ⟨h1, Int.le_refl _, h2⟩ (fun x hx => ?_) h, fun x => ?_, by simp [cntG]; omega, fun q' hq' hql hqn y hy => ?_⟩
          · show n + 1 < x.f
            rcases List.mem_cons.1 hx with rfl | hx
            · omega
            · have := ht x hx; unfold ltG at this; omega
          · rw [mG_cons, Bool.or_comm (mG (r :: t) x)]
            congr 1
            rw [Bool.eq_iff_iff]; simp [inG]; omega
          · rcases List.mem_cons.1 hy with rfl | hy
            · exact hqn
            · exact hql y hy
theorem giveL_len : ∀ (l : List Rg) (n : Int), (giveL l n).length ≤ l.length + 1
  | [], _ => by simp [giveL]
  | r :: t, n => by
    have := giveL_len t n
    simp only [giveL]
    split
    · simp; omega
    · split
      · split
        · simp
        · split <;> simp
      · split <;> simp
end Go.Pl
/- The program's and the reference's ways to take and to give labels. No program in sight. -/
namespace Go.Pl
open Go Go.RT
set_option linter.all false
/-! the reference's Take: a loop -/
def rtkS (i : Nat) (r : Rg) : List Rg := if (if i = 0 then r.f + 1 else r.f) ≤ r.t then [⟨if i = 0 then r.f + 1 else r.f, r.t⟩] else []
def rtkG : Nat → List Rg → List Rg
  | _, [] => []
  | i, r :: t => rtkS i r ++ rtkG (i + 1) t
theorem rtkG_tl : ∀ {l : List Rg} {i : Nat}, vG l → 0 < i → rtkG i l = l
  | [], _, _, _ => rfl
  | r :: t, i, h, hi => by
    have := h.hd.1.le
    have h0 : ¬ i = 0 := by omega
    simp only [rtkG, rtkS, h0, if_false]
    rw [if_pos this, rtkG_tl h.tl (by omega)]; rfl
theorem rtkG_eq {l : List Rg} (h : vG l) : rtkG 0 l = takeL l := by
  cases l with
  | nil => rfl
  | cons r t =>
    have := h.hd.1.le
    simp only [rtkG, rtkS, takeL, if_true]
    rw [rtkG_tl h.tl (by omega)]
    by_cases e : r.f = r.t
    · rw [if_pos e, if_neg (by omega)]; rfl
    · rw [if_neg e, if_pos (by omega)]; rfl
/-! the program's Give: places -/
def cntLt (n : Int) : List Rg → Nat
  | [] => 0
  | r :: t => if r.t < n then cntLt n t + 1 else 0
theorem cntLt_le (n : Int) : ∀ l : List Rg, cntLt n l ≤ l.length
  | [] => Nat.le_refl _
  | r :: t => by
    have := cntLt_le n t
    simp only [cntLt]
    split
    · simp; omega
    · simp
theorem giveL_app {n : Int} : ∀ {A B : List Rg}, (∀ x ∈ A, x.t < n - 1) → giveL (A ++ B) n = A ++ giveL B n
  | [], B, _ => rfl
  | a :: A, B, h => by
    have h1 := h a (List.mem_cons_self ..)
    rw [List.cons_append]
    simp only [giveL]
    rw [if_pos h1, giveL_app fun x hx => h x (List.mem_cons_of_mem _ hx)]; rfl
/-- the first that is not below: its run is merged or not -/
def hdG (f : Int) (n : Int) : List Rg → List Rg
  | [] => [⟨f, n⟩]
  | q :: u => if q.f = n + 1 then ⟨f, q.t⟩ :: u else ⟨f, n⟩ :: q :: u
theorem giveL_hd {n : Int} {B : List Rg} (h : ∀ b ∈ B, n < b.f ∧ b.f ≤ b.t) : giveL B n = hdG n n B := by
  cases B with
  | nil => rfl
  | cons q u =>
    obtain ⟨h1, h2⟩ := h q (List.mem_cons_self ..)
    simp only [giveL, hdG]
    rw [if_neg (by omega), if_neg (by omega)]
theorem giveL_last {n : Int} {a : Rg} {B : List Rg} (ha : a.t = n - 1) : giveL (a :: B) n = hdG a.f n B := by
  simp only [giveL]
  rw [if_neg (by omega), if_pos ha]
  cases B <;> rfl
/-- l in two: below the label, above it -/
theorem cntLt_split (n : Int) : ∀ {l : List Rg}, vG l → mG l n = false → (∀ x ∈ l.take (cntLt n l), x.t < n) ∧ ∀ b ∈ l.drop (cntLt n l), n < b.f ∧ b.f ≤ b.t
  | [], _, _ => by simp [cntLt]
  | r :: t, h, hm => by
    obtain ⟨hr, ht⟩ := h.hd
    rw [mG_cons, Bool.or_eq_false_iff] at hm
    simp only [cntLt]
    by_cases a : r.t < n
    · rw [if_pos a]
      obtain ⟨k1, k2⟩ := cntLt_split n h.tl hm.2
      refine ⟨fun x hx => ?_, fun b hb => k2 b (by simpa using hb)⟩
      rw [List.take_succ_cons] at hx
      rcases List.mem_cons.1 hx with rfl | hx
      · exact a
      · exact k1 x hx
    · rw [if_neg a]
      refine ⟨by simp, fun b hb => ?_⟩
      have hn : ¬ (r.f ≤ n ∧ n ≤ r.t) := fun k => by rw [(inG_iff n r).2 k] at hm; cases hm.1
      have := hr.le
      rw [List.drop_zero] at hb
      rcases List.mem_cons.1 hb with rfl | hb
      · omega
      · have h1 := ht b hb
        have := (h.v b (List.mem_cons_of_mem _ hb)).le
        unfold ltG at h1
        omega
/-- what the program puts together: the places, the run -/
structure pgv where
  i : Nat
  j : Nat
  f : Int
  t : Int
def pgF (l : List Rg) (n : Int) : pgv :=
  let i := cntLt n l
  let a := i > 0 ∧ (l.getD (i - 1) ⟨0, 0⟩).t = n - 1
  let b := i < l.length ∧ (l.getD i ⟨0, 0⟩).f = n + 1
  ⟨if a then i - 1 else i, if b then i + 1 else i, if a then (l.getD (i - 1) ⟨0, 0⟩).f else n, if b then (l.getD i ⟨0, 0⟩).t else n⟩
def repG (l : List Rg) (i j : Nat) (r : Rg) : List Rg := l.take i ++ r :: l.drop j
theorem pgF_eq {l : List Rg} {n : Int} (h : vG l) (hm : mG l n = false) : repG l (pgF l n).i (pgF l n).j ⟨(pgF l n).f, (pgF l n).t⟩ = giveL l n := by
  obtain ⟨h1, h2⟩ := cntLt_split n h hm
  have hle := cntLt_le n l
  have hB : (l.drop (cntLt n l) = [] ∧ ¬ cntLt n l < l.length) ∨ ∃ q u, l.drop (cntLt n l) = q :: u ∧ cntLt n l < l.length ∧ l.getD (cntLt n l) ⟨0, 0⟩ = q ∧ l.drop (cntLt n l + 1) = u := by
    by_cases k : cntLt n l < l.length
    · refine .inr ⟨l[cntLt n l], l.drop (cntLt n l + 1), List.drop_eq_getElem_cons k, k, by simp [List.getD, k], rfl⟩
    · exact .inl ⟨List.drop_of_length_le (by omega), k⟩
  -- what stands behind the run
  have hT : ∀ f : Int, ⟨f, (pgF l n).t⟩ :: l.drop (pgF l n).j = hdG f n (l.drop (cntLt n l)) := fun f => by
    rcases hB with ⟨e, k⟩ | ⟨q, u, e, k, e2, e3⟩
    · simp only [pgF]
      rw [if_neg (by simp [k]), if_neg (by simp [k]), e]; rfl
    · simp only [pgF]
      rw [e2]
      by_cases c : q.f = n + 1
      · rw [if_pos ⟨k, c⟩, if_pos ⟨k, c⟩, e3, e]; simp [hdG, c]
      · rw [if_neg (by simp [c]), if_neg (by simp [c]), e]; simp [hdG, c]
  unfold repG
  rw [hT]
  by_cases a : cntLt n l > 0 ∧ (l.getD (cntLt n l - 1) ⟨0, 0⟩).t = n - 1
  · have e1 : (pgF l n).i = cntLt n l - 1 := by simp only [pgF]; rw [if_pos a]
    have e2 : (pgF l n).f = (l.getD (cntLt n l - 1) ⟨0, 0⟩).f := by simp only [pgF]; rw [if_pos a]
    rw [e1, e2]
    have hk : cntLt n l - 1 < l.length := by omega
    have hg : l.getD (cntLt n l - 1) ⟨0, 0⟩ = l[cntLt n l - 1] := by simp [List.getD, hk]
    rw [hg] at a ⊢
    have hl : l = l.take (cntLt n l - 1) ++ l[cntLt n l - 1] :: l.drop (cntLt n l) := by
      have h3 : l.drop (cntLt n l - 1) = l[cntLt n l - 1] :: l.drop (cntLt n l) := by
        rw [List.drop_eq_getElem_cons hk, show cntLt n l - 1 + 1 = cntLt n l by omega]
      rw [← h3, List.take_append_drop]
    have hA : ∀ x ∈ l.take (cntLt n l - 1), x.t < n - 1 := fun x hx => by
      have hp := h.a
      rw [hl] at hp
      have := (List.pairwise_append.1 hp).2.2 x hx _ (List.mem_cons_self ..)
      have h5 := (h.v _ (List.getElem_mem hk)).le
      unfold ltG at this
      have := a.2
      omega
    have := giveL_app (n := n) (A := l.take (cntLt n l - 1)) (B := l[cntLt n l - 1] :: l.drop (cntLt n l)) hA
    rw [← hl, giveL_last a.2] at this
    exact this.symm
  · have e1 : (pgF l n).i = cntLt n l := by simp only [pgF]; rw [if_neg a]
    have e2 : (pgF l n).f = n := by simp only [pgF]; rw [if_neg a]
    rw [e1, e2]
    have hA : ∀ x ∈ l.take (cntLt n l), x.t < n - 1 := fun x hx => by
      have h3 := h1 x hx
      by_cases c : x.t = n - 1
      · exfalso
        obtain ⟨m, hm1, rfl⟩ := List.mem_iff_getElem.1 hx
        rw [List.length_take] at hm1
        rw [List.getElem_take] at c h3
        have hml : m < l.length := by omega
        by_cases d : m = cntLt n l - 1
        · refine a ⟨by omega, ?_⟩
          subst d
          simpa [List.getD, hml] using c
        · have hk : cntLt n l - 1 < l.length := by omega
          have h5 := List.pairwise_iff_getElem.1 h.a m (cntLt n l - 1) hml hk (by omega)
          have h6 := h1 l[cntLt n l - 1] (List.mem_iff_getElem.2 ⟨cntLt n l - 1, by rw [List.length_take]; omega, by rw [List.getElem_take]⟩)
          have h7 := (h.v _ (List.getElem_mem hk)).le
          unfold ltG at h5
          omega
      · omega
    have := giveL_app (n := n) (A := l.take (cntLt n l)) (B := l.drop (cntLt n l)) hA
    rw [List.take_append_drop, giveL_hd h2] at this
    exact this.symm
/-! the reference's Give: a loop, and those above -/
abbrev GSt := List Rg × Rg
def rgvS (n : Int) (s : GSt) (r : Rg) : GSt := if r.t < n - 1 then (s.1 ++ [r], s.2) else if r.t = n - 1 then (s.1, ⟨r.f, s.2.t⟩) else if r.f = n + 1 then (s.1, ⟨s.2.f, r.t⟩) else s
def rgvG (n : Int) (l : List Rg) : GSt := l.foldl (rgvS n) ([], ⟨n, n⟩)
def abG (n : Int) (l : List Rg) : List Rg := l.filter fun r => decide (n + 1 < r.f)
theorem rgv_above {n : Int} : ∀ {l : List Rg} (s : GSt), (∀ r ∈ l, n + 1 < r.f ∧ r.f ≤ r.t) → l.foldl (rgvS n) s = s ∧ abG n l = l
  | [], s, _ => ⟨rfl, rfl⟩
  | r :: t, s, h => by
    obtain ⟨h1, h2⟩ := h r (List.mem_cons_self ..)
    obtain ⟨k1, k2⟩ := rgv_above (l := t) s fun x hx => h x (List.mem_cons_of_mem _ hx)
    refine ⟨?_, ?_⟩
    · rw [List.foldl_cons, show rgvS n s r = s by unfold rgvS; rw [if_neg (by omega), if_neg (by omega), if_neg (by omega)], k1]
    · unfold abG at *
      rw [List.filter_cons, if_pos (by simpa using h1), k2]
theorem rgv_hd {n f : Int} {l o : List Rg} (hv : vG l) (h : ∀ r ∈ l, n < r.f ∧ r.f ≤ r.t) : (l.foldl (rgvS n) (o, ⟨f, n⟩)).1 ++ (l.foldl (rgvS n) (o, ⟨f, n⟩)).2 :: abG n l = o ++ hdG f n l := by
  cases l with
  | nil => rfl
  | cons q u =>
    obtain ⟨h1, h2⟩ := h q (List.mem_cons_self ..)
    have hu : ∀ r ∈ u, n + 1 < r.f ∧ r.f ≤ r.t := fun r hr => by
      have := hv.hd.2 r hr
      have := (hv.v r (List.mem_cons_of_mem _ hr)).le
      unfold ltG at *; omega
    rw [List.foldl_cons]
    by_cases c : q.f = n + 1
    · rw [show rgvS n (o, ⟨f, n⟩) q = (o, ⟨f, q.t⟩) by unfold rgvS; rw [if_neg (by omega), if_neg (by omega), if_pos c]]
      obtain ⟨k1, k2⟩ := rgv_above (l := u) (o, ⟨f, q.t⟩) hu
      rw [k1]
      have : abG n (q :: u) = u := by
        unfold abG at *
        rw [List.filter_cons, if_neg (by simp; omega), k2]
      rw [this]; simp [hdG, c]
    · rw [show rgvS n (o, ⟨f, n⟩) q = (o, ⟨f, n⟩) by unfold rgvS; rw [if_neg (by omega), if_neg (by omega), if_neg c]]
      obtain ⟨k1, k2⟩ := rgv_above (l := u) (o, ⟨f, n⟩) hu
      rw [k1]
      have : abG n (q :: u) = q :: u := by
        unfold abG at *
        rw [List.filter_cons, if_pos (by simp; omega), k2]
      rw [this]; simp [hdG, c]
theorem rgv_eq {n : Int} : ∀ {l : List Rg} (o : List Rg), vG l → mG l n = false → (l.foldl (rgvS n) (o, ⟨n, n⟩)).1 ++ (l.foldl (rgvS n) (o, ⟨n, n⟩)).2 :: abG n l = o ++ giveL l n
  | [], o, _, _ => rfl
  | r :: t, o, h, hm => by
    obtain ⟨hr, ht⟩ := h.hd
    have h2 := hr.le
    rw [mG_cons, Bool.or_eq_false_iff] at hm
    have hn : ¬ (r.f ≤ n ∧ n ≤ r.t) := fun k => by rw [(inG_iff n r).2 k] at hm; cases hm.1
    by_cases a : r.t < n - 1
    · rw [List.foldl_cons, show rgvS n (o, ⟨n, n⟩) r = (o ++ [r], ⟨n, n⟩) by unfold rgvS; rw [if_pos a]]
      have := rgv_eq (o ++ [r]) h.tl hm.2
      have e : abG n (r :: t) = abG n t := by
        unfold abG
        rw [List.filter_cons, if_neg (by simp; omega)]
      rw [e, this]
      simp only [giveL]
      rw [if_pos a]; simp
    · by_cases b : r.t = n - 1
      · rw [List.foldl_cons, show rgvS n (o, ⟨n, n⟩) r = (o, ⟨r.f, n⟩) by unfold rgvS; rw [if_neg a, if_pos b], giveL_last b]
        have e : abG n (r :: t) = abG n t := by
          unfold abG
          rw [List.filter_cons, if_neg (by simp; omega)]
        rw [e]
        exact rgv_hd h.tl fun x hx => by
          have := ht x hx
          have := (h.v x (List.mem_cons_of_mem _ hx)).le
          unfold ltG at *; omega
      · have hall : ∀ x ∈ r :: t, n < x.f ∧ x.f ≤ x.t := fun x hx => by
          rcases List.mem_cons.1 hx with rfl | hx
          · omega
          · have := ht x hx
            have := (h.v x (List.mem_cons_of_mem _ hx)).le
            unfold ltG at *; omega
        rw [rgv_hd h hall, giveL_hd hall]
theorem rgvG_take (n : Int) {l : List Rg} {i : Nat} (h : i < l.length) : rgvG n (l.take (i + 1)) = rgvS n (rgvG n (l.take i)) l[i] := by
  unfold rgvG
  rw [List.take_succ_eq_append_getElem h, List.foldl_append]; rfl
theorem rgvG_len (n : Int) (l : List Rg) : ∀ i, i ≤ l.length → (rgvG n (l.take i)).1.length ≤ i := by
  intro i
  induction i with
  | zero => intro _; simp [rgvG]
  | succ i ih =>
    intro hi
    rw [rgvG_take n (by omega)]
    have := ih (by omega)
    unfold rgvS
    split
    · simp; omega
    · split
      · show (rgvG n (l.take i)).1.length ≤ _; omega
      · split
        · show (rgvG n (l.take i)).1.length ≤ _; omega
        · omega
end Go.Pl
