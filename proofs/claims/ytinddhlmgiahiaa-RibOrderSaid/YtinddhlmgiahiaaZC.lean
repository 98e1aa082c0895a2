/- A part of the proof: RT33, RT34, RT35, RT36, RT37, RT38, RT39, RT40, RT41, RT42, TabR, PL, S0, G0, RP1, R1, S1, S2, S3, R2, R3, GP1, GP2, SRT, SRI0, GP3, GP4, RP2. -/
import Derived.Test.YtinddhlmgiahiaaZB
import Derived.RangeFuncSeq
import Derived.RangeFuncLeaves
import Derived.Test.YtinddhlmgiahiaaChecked
import Derived.Eval
import Derived.Shelf.SlSortCmp.NoneTotal
set_option linter.all false
/- The engine, part 33: a region that draws, where only the order of its effects is gone through. -/
namespace Go.RT
section
variable {P : Program} {ops : Array Oper} {N : Nat} {C : Cx} {Q : Exit → Act → World → Prop}
/-- what is asked of the region: no guards; slots written once; who reads a slot waits for it; edges lead back -/
def yOK (ops : Array Oper) (N : Nat) : Bool :=
  (List.range ops.size).all fun i => match ops[i]? with
    | none => true
    | some o => o.guard.isNone && (match o.dst with | some d => decide (d < N) | none => true) && (o.after.all fun e => !Region.binds .any e || decide (e.on < i)) &&
      (List.range ops.size).all fun j => match ops[j]? with
        | none => true
        | some oj => match oj.dst with
          | none => true
          | some d => (!decide (o.dst = some d) || decide (j = i)) && (!(opTmps o).contains d || o.after.any fun e => Region.binds .any e && decide (e.on = j))
structure YOk (ops : Array Oper) (N : Nat) : Prop where
  grd : ∀ (i : Nat) (o : Oper), ops[i]? = some o → o.guard = none
  dst : ∀ (i : Nat) (o : Oper) (d : Tmp), ops[i]? = some o → o.dst = some d → d < N
  back : ∀ (i : Nat) (o : Oper) (e : Edge), ops[i]? = some o → e ∈ o.after → Region.binds .any e = true → e.on < i
  once : ∀ (i j : Nat) (d : Tmp), dstOf ops i = some d → dstOf ops j = some d → i = j
  read : ∀ (i j : Nat) (o : Oper) (d : Tmp), ops[i]? = some o → dstOf ops j = some d → d ∈ opTmps o → ∃ e ∈ o.after, Region.binds .any e = true ∧ e.on = j
theorem yOK_spec (h : yOK ops N = true) : YOk ops N := by
  have hj : ∀ j o, ops[j]? = some o → _ := fun j o ho => by
    have := List.all_eq_true.1 h j (List.mem_range.2 (Array.getElem?_eq_some_iff.1 ho).1)
    rw [ho] at this
    exact this
  simp only [Bool.and_eq_true, Array.all_eq_true_iff_forall_mem, Bool.or_eq_true, Bool.not_eq_true', decide_eq_true_eq, decide_eq_false_iff_not, List.all_eq_true, List.mem_range] at hj
  have hd : ∀ {j : Nat} {d : Tmp}, dstOf ops j = some d → ∃ oj, ops[j]? = some oj ∧ oj.dst = some d ∧ j < ops.size := fun {j d} h => by
    unfold dstOf at h
    obtain ⟨oj, h1, h2⟩ := Option.bind_eq_some_iff.1 h
    exact ⟨oj, h1, h2, (Array.getElem?_eq_some_iff.1 h1).1⟩
  refine ⟨fun j o ho => ?_, fun j o d ho hd => ?_, fun j o e ho he hb => ?_, fun i j d h1 h2 => ?_, fun i j o d ho h1 h2 => ?_⟩
  · exact Option.isNone_iff_eq_none.1 (hj j o ho).1.1.1
  · have := (hj j o ho).1.1.2
    rw [hd] at this
    simpa using this
  · rcases (hj j o ho).1.2 e he with h | h
    · rw [hb] at h; cases h
    · exact h
  · obtain ⟨oi, a1, a2, a3⟩ := hd h1
    obtain ⟨oj, b1, b2, b3⟩ := hd h2
    have := (hj i oi a1).2 j b3
    rw [b1] at this
    simp only [b2, Bool.and_eq_true, Bool.or_eq_true, Bool.not_eq_true', decide_eq_false_iff_not, decide_eq_true_eq] at this
    rcases this.1 with h | h
    · exact absurd a2 h
    · exact h.symm
  · obtain ⟨oj, b1, b2, b3⟩ := hd h1
    have := (hj i o ho).2 j b3
    rw [b1] at this
    simp only [b2, Bool.and_eq_true, Bool.or_eq_true, Bool.not_eq_true', decide_eq_false_iff_not, decide_eq_true_eq] at this
    rcases this.2 with h | h
    · exact absurd h2 (by simpa using h)
    · rw [Array.any_eq_true'] at h
      obtain ⟨e, he, hb⟩ := h
      simp only [Bool.and_eq_true, decide_eq_true_eq] at hb
      exact ⟨e, he, hb⟩
/-- a pure operation that may be done at any time from now on -/
def Virt (P : Program) (ops : Array Oper) (Y : Array Bool) (G : Env) (i : Nat) : Prop :=
  ∃ o p, ops[i]? = some o ∧ (∀ H nx, OpS P o true G H nx p H nx) ∧ (∀ d, o.dst = some d → look G d = some p) ∧ ∀ t ∈ opTmps o, ∀ j, dstOf ops j = some t → Y.getD j false = true
/-- the operations Y are done, or can be done at any time -/
def AnyY (P : Program) (ops : Array Oper) (N : Nat) (C : Cx) (Q : Exit → Act → World → Prop) (Y : Array Bool) (G : Env) (H : Hp) (nx : Nat) : Prop :=
  ∀ (r : Option Nat) fuel X a w, X.size = ops.size → (∀ i, X.getD i false = true → Y.getD i false = true) → (∀ i, Y.getD i false = true → X.getD i false = false → Virt P ops Y G i) → (X.toList.filter (!·)).length ≤ fuel → a.defers = C.df → a.tmps.size = N →
    (∃ S m, Mem C H nx S m w ∧ ∀ t q, look G t = some q → (∀ i, Y.getD i false = true → X.getD i false = false → dstOf ops i ≠ some t) → RepAt w S m a t q) → wpAnyIn (FM r) 0 P .any ops Q fuel X a w
theorem virt_more {Y : Array Bool} {G : Env} {i j : Nat} {d : Option Tmp} {p : PV} (hj : j < Y.size) (hd : dstOf ops j = d) (hY : Y.getD j false = false) (hG : ∀ t, d = some t → look G t = none) (h : Virt P ops Y G i) : Virt P ops (Y.setIfInBounds j true) (gput G d p) i := by
  obtain ⟨o, q, h1, h2, h3, h4⟩ := h
  have hlk : ∀ t ∈ opTmps o, look (gput G d p) t = look G t := fun t ht => by
    rw [look_gput, if_neg]
    intro e
    have := h4 t ht j (hd.trans e)
    rw [hY] at this; cases this
  refine ⟨o, q, h1, fun H nx => ⟨fun C S m a w hm hg hr => (h2 H nx).runE C S m a w hm hg fun t q ht hq => hr t q ht (by rw [hlk t ht]; exact hq)⟩, fun t ht => ?_, fun t ht k hk => ?_⟩
  · rw [look_gput]
    by_cases e : d = some t
    · have := hG t e
      rw [h3 t ht] at this; cases this
    · rw [if_neg e]; exact h3 t ht
  · exact (set_iff hj).2 (.inr (h4 t ht k hk))
def StepY (P : Program) (ops : Array Oper) (N : Nat) (C : Cx) (Q : Exit → Act → World → Prop) (Y : Array Bool) (G : Env) (H : Hp) (nx : Nat) (j : Nat) : Prop :=
  ∃ o p H1 nx1, ops[j]? = some o ∧ OpS P o true G H nx p H1 nx1 ∧ (∀ t, o.dst = some t → look G t = none) ∧ AnyY P ops N C Q (Y.setIfInBounds j true) (gput G o.dst p) H1 nx1
theorem filt_set : ∀ (l : List Bool) (i : Nat) (h : i < l.length), l[i] = false → ((l.set i true).filter (!·)).length + 1 ≤ (l.filter (!·)).length := by
  intro l
  induction l with
  | nil => intro i h; simp at h
  | cons b l ih =>
    intro i h hb
    cases i with
    | zero => simp at hb; subst hb; simp
    | succ i =>
      simp only [List.set_cons_succ, List.filter_cons]
      have := ih i (by simpa using h) (by simpa using hb)
      cases b <;> simp <;> omega
theorem some_ready (hgd : YOk ops N) {X : Array Bool} (hX : X.size = ops.size) (hr : Region.ready .any ops X = []) : ∀ i, i < ops.size → X.getD i false = true := by
  intro i
  induction i using Nat.strongRecOn with
  | _ i ih =>
    intro hi
    cases hx : X.getD i false with
    | true => rfl
    | false =>
      have : i ∈ Region.ready .any ops X := mem_ready.2 ⟨by
        have : i < X.size := by omega
        simpa [Array.getD, this] using hx, ops[i], by simp [hi], fun e he hb => by
        have := hgd.back i ops[i] e (by simp [hi]) he hb
        exact ih e.on this (by omega)⟩
      rw [hr] at this; cases this
theorem AnyY.step {Y : Array Bool} {G : Env} {H : Hp} {nx : Nat} {L : List Nat} (hok : yOK ops N = true) (hYs : Y.size = ops.size) (hr : Region.ready .any ops Y = L) (h0 : L = [] → Next C N G H nx (Q .normal)) (h : ∀ j ∈ L, StepY P ops N C Q Y G H nx j) : AnyY P ops N C Q Y G H nx := by
  have hgd := yOK_spec hok
  intro r fuel
  induction fuel with
  | zero =>
    intro X a w hX hXY hV hf h1 h2 ⟨S, m, hm, hsl⟩
    have hall : ∀ i, i < ops.size → X.getD i false = true := fun i hi => by
      have hi' : i < X.toList.length := by simpa [hX] using hi
      cases hx : X.getD i false with
      | true => rfl
      | false =>
        have hxi : X.toList[i] = false := by
          have : i < X.size := by omega
          simpa [Array.getD, this] using hx
        have := filt_set X.toList i hi' hxi
        omega
    have hrX : Region.ready .any ops X = [] := List.eq_nil_iff_forall_not_mem.2 fun i hi => by
      obtain ⟨g1, o, g2, _⟩ := mem_ready.1 hi
      have hin := (Array.getElem?_eq_some_iff.1 g2).1
      have := hall i hin
      have hi2 : i < X.size := by omega
      simp [Array.getD, hi2] at g1 this
      rw [this] at g1; cases g1
    have hL : L = [] := by
      rw [← hr]
      exact List.eq_nil_iff_forall_not_mem.2 fun i hi => by
        obtain ⟨g1, o, g2, _⟩ := mem_ready.1 hi
        have hin := (Array.getElem?_eq_some_iff.1 g2).1
        have := hXY i (hall i hin)
        have hi2 : i < Y.size := by omega
        simp [Array.getD, hi2] at g1 this
        rw [this] at g1; cases g1
    refine ⟨hrX, h0 hL a w ⟨h1, h2, S, m, hm, fun t q hq => hsl t q hq fun i hi hx => ?_⟩⟩
    intro hd
    have hin : i < ops.size := by
      unfold dstOf at hd
      obtain ⟨oj, g1, _⟩ := Option.bind_eq_some_iff.1 hd
      exact (Array.getElem?_eq_some_iff.1 g1).1
    rw [hall i hin] at hx; cases hx
  | succ fuel ih =>
    intro X a w hX hXY hV hf h1 h2 ⟨S, m, hm, hsl⟩
    refine ⟨fun hrX => ?_, fun i hi => ?_⟩
    · have hall := some_ready hgd hX hrX
      have hL : L = [] := by
        rw [← hr]
        exact List.eq_nil_iff_forall_not_mem.2 fun i hi => by
          obtain ⟨g1, o, g2, _⟩ := mem_ready.1 hi
          have hin := (Array.getElem?_eq_some_iff.1 g2).1
          have := hXY i (hall i hin)
          have hi2 : i < Y.size := by omega
          simp [Array.getD, hi2] at g1 this
          rw [this] at g1; cases g1
      refine h0 hL a w ⟨h1, h2, S, m, hm, fun t q hq => hsl t q hq fun i hi hx => ?_⟩
      intro hd
      have hin : i < ops.size := by
        unfold dstOf at hd
        obtain ⟨oj, g1, _⟩ := Option.bind_eq_some_iff.1 hd
        exact (Array.getElem?_eq_some_iff.1 g1).1
      rw [hall i hin] at hx; cases hx
    · obtain ⟨hn0, o, ho, hrd⟩ := mem_ready.1 hi
      have hin : i < ops.size := (Array.getElem?_eq_some_iff.1 ho).1
      have hiX : i < X.size := by omega
      have hx : X.getD i false = false := by simpa [Array.getD, hiX] using hn0
      have hset := fun j => set_iff (X := X) (i := i) (j := j) hiX
      have hdi : dstOf ops i = o.dst := by unfold dstOf; rw [ho]; rfl
      have hfu : ((X.setIfInBounds i true).toList.filter (!·)).length ≤ fuel := by
        rw [show (X.setIfInBounds i true).toList = X.toList.set i true by simp]
        have := filt_set X.toList i (by simpa using hiX) (by simpa [Array.getD, hiX] using hx)
        omega
      have hopd : ∀ t q, t ∈ opTmps o → look G t = some q → RepAt w S m a t q := fun t q ht hq => hsl t q hq fun j hj hxj hd => by
        obtain ⟨e, he, hb, hon⟩ := hgd.read i j o t ho hd ht
        have := hrd e he hb
        rw [hon, hxj] at this; cases this
      unfold wpOpIn
      simp only [ho]
      rw [if_pos (by simp [Region.wanted, hgd.grd i o ho])]
      by_cases hY : Y.getD i false = true
      · obtain ⟨o', p, g1, g2, g3, g4⟩ := hV i hY hx
        rw [ho] at g1; cases g1
        refine (g2 H nx).run C S m a w hm rfl hopd _ _ fun v w' S' m' hm' hle hv => ?_
        refine ih (X.setIfInBounds i true) (a.put o.dst v) w' (by rw [setSize]; exact hX) (fun j hj => ?_) (fun j hj hxj => hV j hj ?_) hfu (by rw [put_defers]; exact h1) (by rw [put_size]; exact h2) ⟨S', m', hm', fun t q hq hn => ?_⟩
        · rcases (hset j).1 hj with rfl | hj
          · exact hY
          · exact hXY j hj
        · cases hb : X.getD j false with
          | false => rfl
          | true => rw [(hset j).2 (.inr hb)] at hxj; cases hxj
        · by_cases hd : o.dst = some t
          · have := g3 t hd
            rw [hq] at this; cases this
            rw [hd]
            exact ⟨v, put_self (by rw [h2]; exact hgd.dst i o t ho hd), hv⟩
          · obtain ⟨u, hu, hr2⟩ := hsl t q hq fun j hj hxj hdj => by
              by_cases hji : j = i
              · subst hji; exact hd (hdi.symm.trans hdj)
              · refine hn j hj ?_ hdj
                cases hb : (X.setIfInBounds i true).getD j false with
                | false => rfl
                | true => rcases (hset j).1 hb with e | e
                          · exact absurd e hji
                          · rw [e] at hxj; cases hxj
            exact ⟨u, (put_at hd).trans hu, hr2.mono hle⟩
      · have hYf : Y.getD i false = false := by simpa using hY
        have hiL : i ∈ L := by
          rw [← hr]
          refine mem_ready.2 ⟨?_, o, ho, fun e he hb => hXY _ (hrd e he hb)⟩
          have : i < Y.size := by omega
          simpa [Array.getD, this] using hYf
        obtain ⟨o', p, H1, nx1, g1, g2, g3, g4⟩ := h i hiL
        rw [ho] at g1; cases g1
        refine g2.run C S m a w hm rfl hopd _ _ fun v w' S' m' hm' hle hv => ?_
        have hsetY := fun j => set_iff (X := Y) (i := i) (j := j) (by omega)
        refine g4 r fuel (X.setIfInBounds i true) (a.put o.dst v) w' (by rw [setSize]; exact hX) (fun j hj => ?_) (fun j hj hxj => ?_) hfu (by rw [put_defers]; exact h1) (by rw [put_size]; exact h2) ⟨S', m', hm', fun t q hq hn => ?_⟩
        · rcases (hset j).1 hj with rfl | hj
          · exact (hsetY j).2 (.inl rfl)
          · exact (hsetY j).2 (.inr (hXY j hj))
        · have hxf : X.getD j false = false := by
            cases hb : X.getD j false with
            | false => rfl
            | true => rw [(hset j).2 (.inr hb)] at hxj; cases hxj
          rcases (hsetY j).1 hj with rfl | hj
          · rw [(hset j).2 (.inl rfl)] at hxj; cases hxj
          · exact virt_more (by omega) hdi hYf g3 (hV j hj hxf)
        · rw [look_gput] at hq
          by_cases hd : o.dst = some t
          · rw [if_pos hd] at hq; cases hq
            rw [hd]
            exact ⟨v, put_self (by rw [h2]; exact hgd.dst i o t ho hd), hv⟩
          · rw [if_neg hd] at hq
            obtain ⟨u, hu, hr2⟩ := hsl t q hq fun j hj hxj hdj => by
              by_cases hji : j = i
              · subst hji; exact hd (hdi.symm.trans hdj)
              · refine hn j ((hsetY j).2 (.inr hj)) ?_ hdj
                cases hb : (X.setIfInBounds i true).getD j false with
                | false => rfl
                | true => rcases (hset j).1 hb with e | e
                          · exact absurd e hji
                          · rw [e] at hxj; cases hxj
            exact ⟨u, (put_at hd).trans hu, hr2.mono hle⟩
theorem StepY.mk {Y : Array Bool} {G : Env} {H : Hp} {nx j : Nat} {o : Oper} {p : PV} {H1 : Hp} {nx1 : Nat} (h1 : ops[j]? = some o) (h2 : OpS P o true G H nx p H1 nx1) (h3 : ∀ t, o.dst = some t → look G t = none) (h4 : AnyY P ops N C Q (Y.setIfInBounds j true) (gput G o.dst p) H1 nx1) : StepY P ops N C Q Y G H nx j := ⟨o, p, H1, nx1, h1, h2, h3, h4⟩
theorem AnyY.nil {Y : Array Bool} {G : Env} {H : Hp} {nx : Nat} (hok : yOK ops N = true) (hYs : Y.size = ops.size) (hr : Region.ready .any ops Y = []) (h0 : Next C N G H nx (Q .normal)) : AnyY P ops N C Q Y G H nx := .step hok hYs hr (fun _ => h0) fun j hj => by cases hj
theorem AnyY.one {Y : Array Bool} {G : Env} {H : Hp} {nx : Nat} (i : Nat) (hok : yOK ops N = true) (hYs : Y.size = ops.size) (hr : Region.ready .any ops Y = [i]) (h : StepY P ops N C Q Y G H nx i) : AnyY P ops N C Q Y G H nx := .step hok hYs hr (fun e => by cases e) fun j hj => by simp at hj; subst hj; exact h
theorem AnyY.two {Y : Array Bool} {G : Env} {H : Hp} {nx : Nat} (i j : Nat) (hok : yOK ops N = true) (hYs : Y.size = ops.size) (hr : Region.ready .any ops Y = [i, j]) (h : StepY P ops N C Q Y G H nx i) (h2 : StepY P ops N C Q Y G H nx j) : AnyY P ops N C Q Y G H nx := .step hok hYs hr (fun e => by cases e) fun k hk => by
  simp at hk; rcases hk with rfl | rfl
  · exact h
  · exact h2
theorem AnyY.three {Y : Array Bool} {G : Env} {H : Hp} {nx : Nat} (i j k : Nat) (hok : yOK ops N = true) (hYs : Y.size = ops.size) (hr : Region.ready .any ops Y = [i, j, k]) (h : StepY P ops N C Q Y G H nx i) (h2 : StepY P ops N C Q Y G H nx j) (h3 : StepY P ops N C Q Y G H nx k) : AnyY P ops N C Q Y G H nx := .step hok hYs hr (fun e => by cases e) fun l hl => by
  simp at hl; rcases hl with rfl | rfl | rfl
  · exact h
  · exact h2
  · exact h3
end
open Go
section
variable {r : Option Nat} {P : Program} {C : Cx} {N : Nat} {G : Env} {H : Hp} {nx : Nat} {Q : Exit → Act → World → Prop} {K : Act → World → Prop}
end
open Go
section
variable {r : Option Nat} {P : Program} {C : Cx} {N : Nat} {G : Env} {H : Hp} {nx : Nat} {Q : Exit → Act → World → Prop} {K : Act → World → Prop}
end
end Go.RT
/- The engine, part 36: four results; the greatest of six numbers. -/
namespace Go.RT
open Go
set_option linter.all false
section
variable {P : Program} {C : Cx} {N : Nat} {G : Env} {H : Hp} {nx : Nat}
theorem rep_tup4 {w : World} {S : Nat → Prop} {m : Ids} {v1 v2 v3 v4 : Value} {f1 f2 f3 f4 : FV} (h1 : Rep w S m v1 (.fz f1)) (h2 : Rep w S m v2 (.fz f2)) (h3 : Rep w S m v3 (.fz f3)) (h4 : Rep w S m v4 (.fz f4)) : Rep w S m (.tuple #[v1, v2, v3, v4]) (.fz (.tup [f1, f2, f3, f4])) := by
  cases h1 with | fz _ _ h1 => cases h2 with | fz _ _ h2 => cases h3 with | fz _ _ h3 => cases h4 with | fz _ _ h4 =>
  refine .fz _ _ (.tup _ _ rfl fun i c f hc hf => ?_)
  match i with
  | 0 => simp at hc hf; subst hc; subst hf; exact h1
  | 1 => simp at hc hf; subst hc; subst hf; exact h2
  | 2 => simp at hc hf; subst hc; subst hf; exact h3
  | 3 => simp at hc hf; subst hc; subst hf; exact h4
  | i + 4 => simp at hf
theorem s_o4 {fn : Func} {f1 f2 f3 f4 : FV} {rv1 rv2 rv3 rv4 : ResultVar} (hC : C.n0 = 0) (hres : fn.results = #[rv1, rv2, rv3, rv4]) (h : RV P G H rv1 f1) (h' : RV P G H rv2 f2) (h'' : RV P G H rv3 f3) (h''' : RV P G H rv4 f4) : Next C N G H nx (Out P fn C (.fz (.tup [f1, f2, f3, f4])) [] 0 .ret) :=
  s_ofin hC fun S m a w hm hsl => by
    obtain ⟨v1, h2, h1⟩ := h.run hm hsl
    obtain ⟨v2, h4, h3⟩ := h'.run hm hsl
    obtain ⟨v3, h6, h5⟩ := h''.run hm hsl
    obtain ⟨v4, h8, h7⟩ := h'''.run hm hsl
    refine ⟨.tuple #[v1, v2, v3, v4], ?_, (rep_tup4 (m := m) (.fz _ _ h2) (.fz _ _ h4) (.fz _ _ h6) (.fz _ _ h8)).frz⟩
    rcases h1 with ⟨r, rfl, e1⟩ | ⟨r, t, ad, rfl, e1, e2⟩ <;> rcases h3 with ⟨r', rfl, e3⟩ | ⟨r', t', ad', rfl, e3, e4⟩ <;> rcases h5 with ⟨r'', rfl, e5⟩ | ⟨r'', t'', ad'', rfl, e5, e6⟩ <;> rcases h7 with ⟨r3, rfl, e7⟩ | ⟨r3, t3, ad3, rfl, e7, e8⟩ <;> simp [results, hres, asAddr, *]
end
section
variable {P : Program} {o : Oper} {g : Bool} {G : Env} {x1 x2 x3 x4 x5 x6 : Operand} {k : IntKind} {a b c d e f : Int}
end
end Go.RT
/- The engine, part 37: results that hand out owned objects out of cells; look-ups in frozen maps. -/
namespace Go.RT
open Go
open Go.ChangeMaps (setBlock)
set_option linter.all false
variable {P : Program} {G : Env} {H : Hp} {nx : Nat} {C : Cx} {N : Nat} {t t' : TypeId} {x y : Operand} {o : Oper} {g : Bool}
/-- a result variable, as it stands -/
inductive RVP (P : Program) (G : Env) (H : Hp) : ResultVar → PV → Prop where
  | tmp (r : Tmp) (p : PV) : look G r = some p → RVP P G H (.tmp r) p
  | cell (r : Tmp) (t : TypeId) (id sz by_ : Nat) (z : Value) (ps : List PV) : TyA P t true → TyN P t sz by_ z → look G r = some (.ptr id sz 0 0) → hlook H id = some (.refs sz [ps]) → RVP P G H (.cell r t) (.agg ps)
theorem RVP.run {rv : ResultVar} {f : PV} {S : Nat → Prop} {m : Ids} {a : Act} {w : World} (h : RVP P G H rv f) (hm : Mem C H nx S m w) (hsl : ∀ t q, look G t = some q → RepAt w S m a t q) :
    ∃ v, Rep w S m v f ∧ ((∃ r, rv = .tmp r ∧ a.tmps[r]?.getD undef = v) ∨ ∃ r t ad, rv = .cell r t ∧ a.tmps[r]?.getD undef = .pointer (some ad) ∧ (loadVar t ad).run P w = .ok v w) := by
  cases h with
  | tmp r f hl =>
    obtain ⟨v, hv, hr⟩ := hsl r _ hl
    exact ⟨v, hr, .inl ⟨r, rfl, by simp [hv]⟩⟩
  | cell r t id sz by_ z ps h1 h2 hl hh =>
    obtain ⟨v, hv, hr⟩ := hsl r _ hl
    cases hr with
    | ptr _ _ _ _ b hb =>
      rcases hm.objs id _ hh with ⟨k1, _⟩ | ⟨b', c, e, k1, hc, k3, k4, k5⟩
      · rw [hb] at k1; cases k1
      · rw [hb] at k1; cases k1
        obtain ⟨us, hul, hcc, hrr⟩ := cells_list (w := w) (b := b) (off := 0) (R := Rep w S m) (fs := ps) fun j f hf => by
          obtain ⟨u, hu, ho1, hp⟩ := k5 0 j ps f rfl hf
          exact ⟨u, own_cell hc (by simpa using hu), ho1, hp⟩
        have hfl : ps.length = sz := k4 ps (by simp)
        have := run_loadn (P := P) (t := t) (w := w) (ad := ⟨b, 0, none⟩) (by rw [hul, hfl]) (fun j u hu => (hcc j u hu).1)
        exact ⟨.agg us.toArray, .agg _ _ (by simpa using hul) (fun j u f hu hf => hrr j u f (by simpa using hu) hf) (fun j u hu => (hcc j u (by simpa using hu)).2), .inr ⟨r, t, _, rfl, by simp [hv], this⟩⟩
section maps
variable {κ ν : Type} [DecidableEq κ] {ek : κ → FV} {ev : ν → FV} {okK : κ → Prop} {kt et : TypeId}
end maps
end Go.RT
/- The engine, part 38: literals whose missing slices are read as empty ones. -/
namespace Go.RT
open Go
set_option linter.all false
variable {P : Program} {G : Env} {t : TypeId} {o : Oper} {g : Bool}
/-- the cells of a zero value; a nil slice may be read as an empty one -/
def zOk : List Value → List FV → Prop
  | [], [] => True
  | u :: us, f :: fs => (f = .lit u ∨ ∃ sz, u = .slice none 0 0 ∧ f = .vals sz []) ∧ zOk us fs
  | _, _ => False
theorem zOk.len : ∀ {us : List Value} {fs : List FV}, zOk us fs → us.length = fs.length
  | [], [], _ => rfl
  | _ :: _, _ :: _, h => by simp [zOk.len h.2]
theorem zOk.at : ∀ {us : List Value} {fs : List FV}, zOk us fs → ∀ (i : Nat) (f : FV), fs[i]? = some f → ∃ u, us[i]? = some u ∧ (f = .lit u ∨ ∃ sz, u = .slice none 0 0 ∧ f = .vals sz [])
  | [], [], _, i, f, h => by simp at h
  | u :: us, f' :: fs, h, i, f, hf => by
    cases i with
    | zero => simp at hf; subst hf; exact ⟨u, rfl, h.1⟩
    | succ i => simpa using zOk.at h.2 i f (by simpa using hf)
theorem zOk.rep {z : Value} {zs : List FV} (h : zOk z.cells.toList zs) (h1 : z.cells.toList.all (·.oneCell') = true) (w : World) (S : Nat → Prop) : ARep (FRep w S) z.cells zs := by
  refine ⟨by simpa using h.len, fun i p hp => ?_⟩
  obtain ⟨u, hu, hq⟩ := h.at i p hp
  rw [Array.getElem?_toList] at hu
  refine ⟨u, hu, List.all_eq_true.1 h1 u (Array.mem_toList_iff.2 (Array.mem_of_getElem? hu)), ?_⟩
  rcases hq with rfl | ⟨sz, rfl, rfl⟩
  · exact .lit _
  · exact .nil _ _ _
theorem op_buildZ {places : List (Nat × Nat)} {n by_ : Nat} {z : Value} {cs : List FV} {parts : List (Nat × Operand)} (zs : List FV) [hb : TyB P t places] [hn : TyN P t n by_ z] (ho : o.op = .build t parts.toArray) (h1 : z.cells.toList.all (·.oneCell') = true) (hz : zOk z.cells.toList zs) (hf : FillF places G g parts zs cs) : OpP P o g G (.fz (.agg cs)) :=
  .of fun S m a w hg ha => by
    obtain ⟨fs, e1, e2⟩ := hb.h
    obtain ⟨A, k1, k2, k3⟩ := hf.run hg ha (fun p hp => by simp only [ho, Op.operands, List.mem_toArray]; exact List.mem_map.2 ⟨p, by simpa using hp, rfl⟩) _ (hz.rep h1 w S)
    refine ⟨.agg A, ?_, .fz _ _ (.agg A cs k2 (fun i c f hc hf => ?_) (fun i c hc => ?_))⟩
    · have : (parts.toArray.map fun p => (p.1, a.eval p.2)).toList = parts.map fun p => (p.1, a.eval p.2) := by simp
      simp [execOp, ho, Instr.build, run_zero hn, run_underlying e1, e2, k1]
    · obtain ⟨u, hu, _, hr⟩ := k3 i f hf
      rw [hc] at hu; cases hu; exact hr
    · have hi : i < cs.length := by rw [← k2]; exact (Array.getElem?_eq_some_iff.1 hc).1
      obtain ⟨u, hu, hone, _⟩ := k3 i cs[i] (by simp [hi])
      rw [hc] at hu; cases hu; exact hone
end Go.RT
/- Loops over functions: the record and the marks as owned raw objects; calls of yield; rounds. -/
namespace Go.RT
open Go
set_option linter.all false
def noC : Obj → Bool
  | .cells .. => false
  | _ => true
theorem frz_noC {w : World} {b : Nat} {x : Obj} (h : w.heap[b]? = some x) (hx : noC x = true) {a : Addr} (ha : a.block = b) : w.frozen? a = false := by
  subst ha
  simp only [World.frozen?, h]
  cases x <;> first | rfl | (simp [noC] at hx)
theorem room_noC {w : World} {b n : Nat} {x : Obj} (h : w.heap[b]? = some x) (hx : noC x = true) : ¬ roomIs w b n := fun ⟨c, e, fr, h1, _⟩ => by
  rw [h] at h1; cases h1; simp [noC] at hx
section
variable {C : Cx} {H : Hp} {nx : Nat} {S : Nat → Prop} {m : Ids} {w : World}
theorem Mem.raw (hm : Mem C H nx S m w) {id : Nat} {x : Obj} (hl : hlook H id = some (.raw x)) : ∃ b, m id = some (some b) ∧ w.heap[b]? = some x := hm.objs id _ hl
theorem Mem.rawSet (hm : Mem C H nx S m w) {id b : Nat} {x : Obj} (y : Obj) (hl : hlook H id = some (.raw x)) (hb : m id = some (some b)) (hx : noC x = true) (hy : noC y = true) :
    Mem C ((id, some (.raw y)) :: H) nx S m (w.putObj b y) ∧ Le S m w S m (w.putObj b y) := by
  obtain ⟨hnS, hblt, hown⟩ := hm.blk id _ b hl hb
  have hbx : w.heap[b]? = some x := by
    obtain ⟨b', h1, h2⟩ := hm.raw hl
    rw [hb] at h1; cases h1; exact h2
  have hother : ∀ k, k ≠ b → (w.putObj b y).heap[k]? = w.heap[k]? := fun k hk => World.putObj_heap_other hk
  have hsame : (w.putObj b y).heap[b]? = some y := World.putObj_heap_same hblt
  have hle : Le S m w S m (w.putObj b y) := ⟨fun _ h => h, fun k hk => hother k (fun e => hnS (e ▸ hk)), fun _ _ h => h, fun k n hr => by
    have hk : k ≠ b := fun e => room_noC hbx hx (e ▸ hr)
    obtain ⟨c, e, fr, h1, h2⟩ := hr
    exact ⟨c, e, fr, (hother k hk).trans h1, h2⟩⟩
  have ex : ∀ i o2, hlook ((id, some (.raw y)) :: H) i = some o2 → ∃ o3, hlook H i = some o3 := fun i o2 h => by
    rw [hlook_cons] at h
    by_cases hi : id = i
    · subst hi; exact ⟨_, hl⟩
    · rw [if_neg hi] at h; exact ⟨_, h⟩
  refine ⟨hm.step hle ⟨rfl, Nat.le_refl _⟩ rfl rfl (fun a ha => ?_) (by simp) (fun k h1 h2 => hother k (fun e => ?_)) (fun _ h => .inl h) (fun i o2 h => ?_) (fun i o2 b2 h h2 => ?_) (fun i1 i2 o1 o2 b2 h1 h2 h3 h4 => ?_) (fun k hk => ?_) hm.fresh ?_, hle⟩
  · by_cases e : a.block = b
    · rw [frz_noC hsame hy e, frz_noC hbx hx e]
    · simp only [World.frozen?, hother _ e]
  · subst e
    rcases hown with h | h
    · omega
    · exact h2 h
  · rw [hlook_cons] at h
    by_cases hi : id = i
    · rw [if_pos hi] at h; cases h; subst hi; exact ⟨b, hb, hsame⟩
    · rw [if_neg hi] at h
      exact (hm.objs i o2 h).mono hle fun b2 hb2 => hother b2 (fun e => by subst e; exact hi (hm.inj id i _ _ b2 hl h hb hb2))
  · obtain ⟨o3, h3⟩ := ex i o2 h
    obtain ⟨k1, k2, k3⟩ := hm.blk i o3 b2 h3 h2
    exact ⟨k1, by simpa using k2, k3⟩
  · obtain ⟨_, k1⟩ := ex i1 o1 h1
    obtain ⟨_, k2⟩ := ex i2 o2 h2
    exact hm.inj i1 i2 _ _ b2 k1 k2 h3 h4
  · simpa using hm.stab k hk
  · refine hm.nkeep hle (by simp) (fun id' sz i j isz irows hO => ?_) (fun id' sz i j isz irows b2 c2 e2 u hO k1 k2 k3 => ⟨c2, e2, (hother b2 (fun e => by subst e; rw [hbx] at k2; cases k2; simp [noC] at hx)).trans k2, k3⟩) (fun b' h1 h2 h3 => ⟨hother b' (fun e => h3 _ _ hl (e ▸ hb)), h2, fun id2 o2 ho2 => ?_⟩)
    · by_cases hi : id = id'
      · exact (hO.notPlain (o := .raw y) (by rw [hlook_cons, if_pos hi]) trivial).elim
      · exact hO.of fun o2 h => by rwa [hlook_cons, if_neg hi] at h
    · obtain ⟨o3, ho3⟩ := ex _ _ ho2; exact h3 _ _ ho3
theorem Mem.newRaw (hm : Mem C H nx S m w) (x : Obj) :
    Mem C ((nx, some (.raw x)) :: H) (nx + 1) S (setM m nx (some w.heap.size)) (w.alloc x) ∧ Le S m w S (setM m nx (some w.heap.size)) (w.alloc x) := by
  have hnew : (w.alloc x).heap[w.heap.size]? = some x := heap_alloc_new w _
  have hold : ∀ b, b < w.heap.size → (w.alloc x).heap[b]? = w.heap[b]? := fun b hb => RowKit.Below.heap_alloc w _ b hb
  have hids : ∀ i x, m i = some x → i ≠ nx := fun i x hi => by have := hm.lt hi; omega
  have hle : Le S m w S (setM m nx (some w.heap.size)) (w.alloc x) := by
    refine ⟨fun _ h => h, fun b hb => hold b (hm.stab b hb), fun i x hi => by rw [setM_other (hids i x hi)]; exact hi, fun b n hr => ?_⟩
    obtain ⟨c', e', fr, h1, h2⟩ := hr
    have : b < w.heap.size := (Array.getElem?_eq_some_iff.1 h1).1
    exact ⟨c', e', fr, (hold b this).trans h1, h2⟩
  refine ⟨hm.step hle ⟨rfl, Nat.le_refl _⟩ rfl rfl (fun a ha => ?_) (by simp) (fun b hb _ => hold b (Nat.lt_of_lt_of_le hb hm.size)) (fun b hb => .inl hb) (fun id o' ho' => ?_) (fun id o' b ho' hb => ?_) (fun id id' o' o'' b h1 h2 h3 h4 => ?_) (fun b hb => ?_) (fun i hi => ?_) ?_, hle⟩
  · simp only [World.frozen?, hold _ ha]
  · rw [hlook_cons] at ho'
    by_cases hid : nx = id
    · rw [if_pos hid] at ho'; cases ho'; subst hid
      exact ⟨_, setM_self _ _ _, hnew⟩
    · rw [if_neg hid] at ho'
      exact (hm.objs id o' ho').mono hle fun b hb => hold b (hm.blk id o' b ho' hb).2.1
  · rw [hlook_cons] at ho'
    by_cases hid : nx = id
    · subst hid
      rw [setM_self] at hb; cases hb
      exact ⟨fun h => Nat.lt_irrefl _ (hm.stab _ h), by simp, .inl hm.size⟩
    · rw [if_neg hid] at ho'
      rw [setM_other (fun h => hid h.symm)] at hb
      obtain ⟨h1, h2, h3⟩ := hm.blk id o' b ho' hb
      exact ⟨h1, by simp; omega, h3⟩
  · rw [hlook_cons] at h1 h2
    by_cases ha : nx = id <;> by_cases hb : nx = id'
    · exact ha.symm.trans hb
    · subst ha
      rw [if_neg hb] at h2
      rw [setM_self] at h3; cases h3
      rw [setM_other (fun h => hb h.symm)] at h4
      exact absurd (hm.blk id' o'' _ h2 h4).2.1 (Nat.lt_irrefl _)
    · subst hb
      rw [if_neg ha] at h1
      rw [setM_self] at h4; cases h4
      rw [setM_other (fun h => ha h.symm)] at h3
      exact absurd (hm.blk id o' _ h1 h3).2.1 (Nat.lt_irrefl _)
    · rw [if_neg ha] at h1; rw [if_neg hb] at h2
      rw [setM_other (fun h => ha h.symm)] at h3; rw [setM_other (fun h => hb h.symm)] at h4
      exact hm.inj id id' o' o'' b h1 h2 h3 h4
  · have := hm.stab b hb; simp; omega
  · rw [setM_other (by omega)]; exact hm.fresh i (by omega)
  · have hOE : ∀ id sz i j isz irows, OwnE ((nx, some (.raw x)) :: H) id sz i j isz irows → OwnE H id sz i j isz irows := fun id sz i j isz irows hO => by
      by_cases hid : nx = id
      · exact (hO.notPlain (o := .raw x) (by rw [hlook_cons, if_pos hid]) trivial).elim
      · exact hO.of fun o2 h => by rwa [hlook_cons, if_neg hid] at h
    refine hm.nkeep hle (by simp) hOE (fun id sz i j isz irows b c2 e2 u hO k1 k2 k3 => ⟨c2, e2, (hold b (Array.getElem?_eq_some_iff.1 k2).1).trans k2, k3⟩) (fun b' h1 h2 h3 => ⟨hold b' h1, h2, fun id2 o2 ho2 hc => ?_⟩)
    rw [hlook_cons] at ho2
    by_cases hid : nx = id2
    · subst hid; rw [setM_self] at hc; cases hc; exact Nat.lt_irrefl _ h1
    · rw [if_neg hid] at ho2; rw [setM_other (fun h => hid h.symm)] at hc; exact h3 _ _ ho2 hc
end

/-! ## calls of yield -/
/-- the doer: yield, handed ahead of its arguments -/
def DY (P : Program) (vs : Array Value) (w : World) (R : Ending → World → Prop) : Prop :=
  ∃ l, vs[0]? = some (.func (.yield l) #[] #[]) ∧ YieldAt Fence.wide 0 P l (vs.toList.drop 1).toArray w R
theorem DY.mono {P : Program} (vs : Array Value) (w : World) (R R' : Ending → World → Prop) (h : DY P vs w R) (hr : ∀ e w', R e w' → R' e w') : DY P vs w R' := by
  obtain ⟨l, h1, fn, tmps, assign, body, h2, h3⟩ := h
  exact ⟨l, h1, fn, tmps, assign, body, h2, h3.mono hr⟩
section
variable {P : Program} {o : Oper} {g : Bool} {G : Env} {H : Hp} {nx : Nat}
theorem run_yieldOp {cf : Operand} {xs : List Operand} {ts : Array TypeId} {a : Act} {w : World} {l : Nat} (ho : o.op = .call { callee := .value cf, args := xs.toArray, argTypes := ts }) (hf : a.eval cf = .func (.yield l) #[] #[]) :
    (execOp a.eval o).run P w = (Instr.yield l (xs.map a.eval).toArray).run P w := by
  simp [execOp, ho, resolve, hf, Deferred.ofValue, invoke]
theorem op_yield {id : Nat} {tm : Array Value} {tps : List PV} {cf : Operand} {xs : List Operand} {ts : Array TypeId} {qs args : List PV} {n n' : Nat} {Hin Hout H' : Hp} {res res' : PV} {nx' : Nat} (L : List Nat) (hM : g = true → MeetsD (DY P) args n Hin res Hout n') (ho : o.op = .call { callee := .value cf, args := xs.toArray, argTypes := ts })
    (hf : Opd G g cf (.yl id tm tps)) (hx : Opds G g xs qs) (hargs : PV.yl id tm tps :: qs = args.map (renP L)) (hlt : args.all (ltP n) = true) (hL : Lent L n H Hin) (hnn : Nat.ble n n' = true) (hHo : Hout.all (fun x => Nat.blt x.1 n') = true)
    (hres : renP (L ++ List.range' nx (n' - n)) res = res') (hH : callH (L ++ List.range' nx (n' - n)) Hout L H = H') (hnx : nx + (n' - n) = nx') : OpS P o g G H nx res' H' nx' :=
  ⟨fun C S m a w hm hg ha K Q hK => by
    subst hres; subst hH; subst hnx
    have h1 := hf.rep hg (by simp [ho, Op.operands, Call.operands]) ha
    have h2 := hx.rep hg ha (fun x hx => by simp [ho, Op.operands, Call.operands, hx])
    have hl := hx.length
    generalize hv : a.eval cf = v at h1
    have h1' := h1
    cases h1' with
    | yl l _ _ _ q1 q2 q3 =>
      have hc := call_coreD (D := DY P) DY.mono hm (hM hg) hL (Nat.le_of_ble_eq_true hnn) (fun x hx => blt_of (List.all_eq_true.1 hHo x hx)) (vs := .func (.yield l) #[] #[] :: xs.map a.eval) (by
        have := congrArg List.length hargs
        simpa [hl] using this) (fun i v p k1 k2 => ⟨by
          have hp : (PV.yl id tm tps :: qs)[i]? = some (renP L p) := by rw [hargs, List.getElem?_map, k2]; rfl
          cases i with
          | zero => simp at k1 hp; subst k1; rw [← hp]; exact h1
          | succ i => exact h2 i v _ (by simpa using k1) (by simpa using hp), List.all_eq_true.1 hlt p (List.mem_of_getElem? k2)⟩)
      obtain ⟨l', e1, fn, tmps, assign, body, hrun, hR⟩ := hc
      have : l' = l := by simpa using e1.symm
      subst this
      have hy := run_yieldOp (P := P) (w := w) ho hv
      simp only [List.drop_succ_cons, List.drop_zero] at hrun
      exact Oper.wpE_of (hy.trans hrun) (fun _ => by simp) fun r => ⟨fun h => by simp [FM] at h, hR.mono fun e w' ⟨v, S', m', he, k1, k2, k3⟩ => by
        subst he; exact hK v w' S' m' k1 k2 k3⟩⟩
end
end Go.RT
/- Rounds. -/
namespace Go.RT
open Go
set_option linter.all false
def exJ : Exit → Option (Option Code)
  | .normal => some none
  | .ret => some (some .ret)
  | .exit id => some (some (.exit id))
  | .goto t => some (some (.goto t))
  | _ => none
/-- what the body of a round must come to: the jump that is left -/
def ROut (C : Cx) (Hm : Hp) (n' : Nat) (j : Option Code) : Exit → Act → World → Prop := fun e _ w => exJ e = some j ∧ ∃ S m, Mem C Hm n' S m w
theorem s_rout {C : Cx} {N : Nat} {G : Env} {Hm : Hp} {n' : Nat} {j : Option Code} {e : Exit} (he : exJ e = some j) : Next C N G Hm n' (ROut C Hm n' j e) := fun a w hr => by
  obtain ⟨S, m, hm, _⟩ := hr.mem
  exact ⟨he, S, m, hm⟩
section
variable {P : Program} {C : Cx} {N : Nat} {G : Env} {H : Hp} {nx : Nat} {Q : Exit → Act → World → Prop}
theorem Mem.id0 {S : Nat → Prop} {m : Ids} {w : World} (hm : Mem C H nx S m w) {i : Nat} {x : Option Nat} (h : C.m0 i = some x) : m i = some x := hm.le.ids _ _ h
/-- the left sides are assigned: the record becomes busy -/
theorem s_begin {rc : Loop} {r l : Nat} {body : Code} (hl0 : C.m0 r = some (some l)) (hr : hlook H r = some (.raw (.loop rc))) (hst : rc.state = .ready)
    (h : Next C N G ((r, some (.raw (.loop { rc with state := .busy }))) :: H) nx (body.wpM (some l) P Q)) : Next C N G H nx (fun a w => ∃ w₂, (Instr.beginRound l).run P w = .ok () w₂ ∧ body.wpM (some l) P Q a w₂) := fun a w hR => by
  obtain ⟨S, m, hm, hsl⟩ := hR.mem
  have hb := hm.id0 hl0
  obtain ⟨b, h1, h2⟩ := hm.raw hr
  rw [hb] at h1; cases h1
  obtain ⟨k1, k2⟩ := hm.rawSet (.loop { rc with state := .busy }) hr hb rfl rfl
  exact ⟨_, run_beginRound h2 hst, h a _ ⟨hR.defers, hR.size, S, m, k1, fun t q hq => (hsl t q hq).mono k2⟩⟩
end
/-- a round, out of the walk of its body -/
theorem round_meets {P : Program} {rc : Loop} {assign body : Code} {r n n' N p : Nat} {tps : List PV} {x : PV} {Hin Hm : Hp} {j : Option Code} (has : rc.assign = assign) (hbd : rc.body = body) (hst : rc.state = .ready) (hpr : rc.params = #[p]) (hp : p < N) (hN : tps.length = N)
    (hr : hlook Hin r = some (.raw (.loop rc))) (hHm : hlook Hm r = some (.raw (.loop { rc with state := .busy })))
    (hwalk : ∀ (C : Cx) (l : Nat), C.n0 = n → C.m0 r = some (some l) → Next C N ((p, x) :: argEnv 0 tps) Hin n (assign.wpM (some l) P (Exit.then (fun a w => ∃ w₂, (Instr.beginRound l).run P w = .ok () w₂ ∧ body.wpM (some l) P (ROut C Hm n' j) a w₂) (fun _ _ _ => False)))) :
    MeetsD (DY P) [.yl r rc.tmps tps, x] n Hin (.fz (.lit (.bool j.isNone))) ((r, some (.raw (.loop { rc with state := if j.isNone then .ready else .done, pending := j }))) :: Hm) n' := by
  subst has; subst hbd
  refine ⟨fun C vs hn hm hl hrep => ?_⟩
  obtain ⟨v0, v1, rfl⟩ : ∃ v0 v1, vs = [v0, v1] := by
    match vs, hl with
    | [v0, v1], _ => exact ⟨v0, v1, rfl⟩
  have hr0 := hrep 0 v0 _ rfl rfl
  have hr1 := hrep 1 v1 _ rfl rfl
  cases hr0 with
  | yl l _ _ _ q1 q2 q3 =>
    obtain ⟨b, h1, h2⟩ := hm.raw hr
    rw [q1] at h1; cases h1
    have hy := run_yield (P := P) (args := #[v1]) h2 (by rw [hpr]; rfl)
    refine ⟨l, rfl, rc.fn, _, rc.assign, rc.body, hy, roundIn_of_wpIn trivial ?_⟩
    have htm : (rc.params.zip #[v1]).foldl (fun tmps (t, a) => tmps.setIfInBounds t a) rc.tmps = rc.tmps.setIfInBounds p v1 := by rw [hpr]; simp
    rw [htm]
    refine wpIn_mono (hwalk { C with df := [] } l hn q1 { tmps := rc.tmps.setIfInBounds p v1, defers := [] } C.w0 ⟨rfl, by simp [q2, hN], C.S0, C.m0, hm.df _, fun t q hq => ?_⟩) ?_
    · rw [look_cons] at hq
      by_cases ht : p = t
      · rw [if_pos ht] at hq; cases hq; subst ht
        exact ⟨v1, by simp [q2, hN, hp], hr1⟩
      · rw [if_neg ht] at hq
        obtain ⟨_, k2⟩ := look_argEnv tps 0 t q hq
        simp only [Nat.sub_zero] at k2
        have htl : t < rc.tmps.size := by rw [q2]; exact (List.getElem?_eq_some_iff.1 k2).1
        refine ⟨rc.tmps[t], ?_, q3 t _ q (by simp [htl]) k2⟩
        show (rc.tmps.setIfInBounds p v1)[t]? = _
        rw [Array.getElem?_setIfInBounds_ne ht]; simp [htl]
    · intro e a w he
      cases e with
      | normal =>
        obtain ⟨w2, e1, e2⟩ := he
        refine ⟨w2, e1, wpIn_mono e2 ?_⟩
        rintro e a w ⟨k1, S, m, k2⟩
        have k2 := k2.df C.df
        have k2 : Mem C Hm n' S m w := k2
        have hb := k2.id0 q1
        obtain ⟨b, h1, h3⟩ := k2.raw hHm
        rw [hb] at h1; cases h1
        have hend := run_endRound (P := P) j h3
        obtain ⟨z1, z2⟩ := k2.rawSet (.loop { rc with state := if j.isNone then .ready else .done, pending := j }) hHm hb rfl rfl
        have hfin : ∃ v w', (Instr.endRound l j).run P w = .ok v w' ∧ ∃ v2 S' m', Ending.returned v = .returned v2 ∧ Mem C ((r, some (.raw (.loop { rc with state := if j.isNone then .ready else .done, pending := j }))) :: Hm) n' S' m' w' ∧ Rep w' S' m' v2 (.fz (.lit (.bool j.isNone))) :=
          ⟨_, _, hend, _, S, m, rfl, z1, .fz _ _ (.lit _)⟩
        cases e <;> simp only [exJ, Option.some.injEq] at k1
        case normal => subst k1; exact hfin
        case ret => subst k1; exact hfin
        case exit id => subst k1; exact hfin
        case goto t => subst k1; exact hfin
        all_goals cases k1
      | _ => exact he.elim
end Go.RT
/- A loop over a function: its statement, what follows it, and a function's end with its mark. -/
namespace Go.RT
open Go
set_option linter.all false
/-- C' is C from behind a loop on: the mark D is pending -/
structure After (C C' : Cx) (D : Nat) : Prop where
  df : C'.df = { target := .collected D, args := #[] } :: C.df
  n0 : C'.n0 = C.n0
  m0 : C'.m0 = C.m0
  own : ∀ b, C'.own0 b ↔ (C.w0.heap.size ≤ b ∨ C.own0 b) ∧ b ≠ D
  base : ∃ H nx m, Mem C H nx C'.S0 m C'.w0
  at_ : C'.w0.heap[D]? = some (.deferred (some []))
  notS : ¬ C'.S0 D
  new : C.w0.heap.size ≤ D
section
variable {P : Program} {C C' : Cx} {D N : Nat} {G : Env} {H : Hp} {nx : Nat} {S : Nat → Prop} {m : Ids} {w : World} {Q : Exit → Act → World → Prop}
theorem After.lt (h : After C C' D) : D < C'.w0.heap.size := (Array.getElem?_eq_some_iff.1 h.at_).1
theorem After.still (h : After C C' D) (hm : Mem C' H nx S m w) : w.heap[D]? = some (.deferred (some [])) ∧ ¬ S D := by
  have hno : ¬ C'.own0 D := fun e => ((h.own D).1 e).2 rfl
  refine ⟨(hm.frame D h.lt hno).trans h.at_, fun hs => ?_⟩
  rcases hm.sub D hs with k | k | k
  · exact h.notS k
  · exact hno k
  · have := h.lt; omega
/-- seen from the beginning, with the mark's block taken -/
theorem After.back (h : After C C' D) (hm : Mem C' H nx S m w) (y : Obj) (hy : noC y = true) : Mem C H nx S m (w.putObj D y) ∧ Le S m w S m (w.putObj D y) := by
  obtain ⟨H0, nx0, m0', hb⟩ := h.base
  obtain ⟨hD, hnS⟩ := h.still hm
  have hDlt : D < w.heap.size := Nat.lt_of_lt_of_le h.lt hm.size
  have hother : ∀ k, k ≠ D → (w.putObj D y).heap[k]? = w.heap[k]? := fun k hk => World.putObj_heap_other hk
  have hsame : (w.putObj D y).heap[D]? = some y := World.putObj_heap_same hDlt
  have hx : noC (.deferred (some [])) = true := rfl
  have hle : Le S m w S m (w.putObj D y) := ⟨fun _ h => h, fun k hk => hother k (fun e => hnS (e ▸ hk)), fun _ _ h => h, fun k n hr => by
    have hk : k ≠ D := fun e => room_noC hD hx (e ▸ hr)
    obtain ⟨c, e, fr, h1, h2⟩ := hr
    exact ⟨c, e, fr, (hother k hk).trans h1, h2⟩⟩
  have hown : ∀ b, C'.w0.heap.size ≤ b ∨ C'.own0 b → (C.w0.heap.size ≤ b ∨ C.own0 b) ∧ b ≠ D := fun b hb2 => by
    rcases hb2 with k | k
    · exact ⟨.inl (Nat.le_trans hb.size k), fun e => by have := h.lt; omega⟩
    · exact (h.own b).1 k
  have hne : ∀ id o b, hlook H id = some o → m id = some (some b) → b ≠ D := fun id o b h1 h2 => (hown b (hm.blk id o b h1 h2).2.2).2
  refine ⟨⟨⟨hm.os.1.trans hb.os.1, Nat.le_trans hb.os.2 hm.os.2⟩, hm.tape.trans hb.tape, hm.output.trans hb.output, fun a ha => ?_, Nat.le_trans hb.size (by simpa using hm.size), fun b h1 h2 => ?_, ?_, fun b hs => ?_, fun i x hx => hb.n0 i x hx,
    fun id o ho => (hm.objs id o ho).mono hle fun b hb2 => hother b (hne id o b ho hb2), fun id o b h1 h2 => ?_, hm.inj, fun b hs => by simpa using hm.stab b hs, hm.fresh, ?_⟩, hle⟩
  · have hne : a.block ≠ D := fun e => by have := h.new; omega
    have h1 := hm.fz a (Nat.lt_of_lt_of_le ha hb.size)
    have h2 := hb.fz a ha
    rw [← h2, ← h1]
    simp only [World.frozen?, hother _ hne]
  · have hne : b ≠ D := fun e => by have := h.new; omega
    rw [hother b hne, hm.frame b (Nat.lt_of_lt_of_le h1 hb.size) (fun e => by
      rcases ((h.own b).1 e).1 with k | k
      · omega
      · exact h2 k)]
    exact hb.frame b h1 h2
  · have h1 : Le C.S0 C.m0 C.w0 C'.S0 C'.m0 C'.w0 := ⟨hb.le.st, hb.le.same, fun i x hx => by rw [h.m0]; exact hx, hb.le.room⟩
    exact (h1.trans hm.le).trans hle
  · rcases hm.sub b hs with k | k | k
    · exact hb.sub b k
    · rcases ((h.own b).1 k).1 with q | q
      · exact .inr (.inr q)
      · exact .inr (.inl q)
    · exact .inr (.inr (Nat.le_trans hb.size k))
  · obtain ⟨k1, k2, k3⟩ := hm.blk id o b h1 h2
    exact ⟨k1, by simpa using k2, (hown b k3).1⟩
  · obtain ⟨ib, hn⟩ := hm.nst
    refine ⟨_, hn.keep (C' := C) (fun i => i) (fun id sz i j isz irows hO => ⟨hO, rfl⟩) (fun _ _ _ _ _ _ _ _ _ _ _ _ _ _ h => h) hle.st hle.same (fun id sz i j isz irows b2 c2 e2 u hO k1 k2 k3 => ⟨c2, e2, (hother b2 (fun e => by subst e; rw [hD] at k2; cases k2)).trans k2, k3⟩) (fun id sz i j isz irows b' hO hb2 h1 h2 h3 h4 => ?_)⟩
    obtain ⟨q1, q2⟩ := hown b' h3
    exact ⟨hother b' q2, h1, by simpa using h2, q1, h4⟩
/-- what the body of a function with one loop over a function must come to -/
def OutM (P : Program) (fn : Func) (C : Cx) (res : PV) (Hout : Hp) (n' : Nat) : Exit → Act → World → Prop := bodyPostM (FM none) 0 P fn (fun e w' => ∃ v S' m', e = .returned v ∧ Mem C Hout n' S' m' w' ∧ Rep w' S' m' v res)
theorem s_tail {fn : Func} {res : PV} {Hout : Hp} {n' : Nat} (hA : After C C' D) (hdf : C.df = []) (h : Next C N G H nx (Out P fn C res Hout n' .ret)) : Next C' N G H nx (OutM P fn C res Hout n' .ret) := fun a w hR => by
  obtain ⟨S, m, hm, hsl⟩ := hR.mem
  obtain ⟨k1, k2⟩ := hA.back hm (.deferred none) rfl
  obtain ⟨hd, v, hres, hQ⟩ := h { tmps := a.tmps, defers := [] } _ ⟨hdf.symm, hR.size, S, m, k1, fun t q hq => (hsl t q hq).mono k2⟩ hdf
  show LeavesInM (FM none) 0 P fn a.tmps _ a.defers .returning w
  rw [hR.defers, hA.df, hdf]
  exact ⟨by simp, .inl ⟨D, _, rfl, run_takeDeferred (hA.still hm).1, v, hres, hQ⟩⟩
theorem Meets.introM {f : FuncId} {fn : Func} {c : Code} {args : List PV} {n : Nat} {Hin : Hp} {res : PV} {Hout : Hp} {n' : Nat} (hf : P.funcs[f]? = some fn) (hb : fn.body = some c) (hN : args.length ≤ fn.ntmps)
    (h : ∀ C : Cx, C.n0 = n → C.df = [] → Next C fn.ntmps (argEnv 0 args) Hin n (c.wpM none P (OutM P fn C res Hout n'))) : Meets P f args n Hin res Hout n' := by
  refine ⟨fun C vs hn hm hl hr => callsIn_FM.1 (CallsIn.mono (callsIn_of_wp_marks (F := FM none) (n := 0) hf hb trivial (h { C with df := [] } hn rfl _ _ ⟨rfl, ?_, C.S0, C.m0, hm.df _, fun t q hq => ?_⟩)) fun e w' ⟨v, S', m', h1, h2, h3⟩ => ⟨v, S', m', h1, h2.df C.df, h3⟩)⟩
  · simp; omega
  · obtain ⟨_, h2⟩ := look_argEnv args 0 t q hq
    simp only [Nat.sub_zero] at h2
    have ht : t < vs.length := by rw [hl]; exact (List.getElem?_eq_some_iff.1 h2).1
    refine ⟨vs[t], ?_, hr t vs[t] q (by simp [ht]) h2⟩
    simp [Array.getElem?_append, ht]
end
end Go.RT
/- The statement of a loop over a function. -/
namespace Go.RT
open Go
set_option linter.all false
theorem Mem.restart {C : Cx} {H H2 : Hp} {nx : Nat} {S : Nat → Prop} {m : Ids} {w : World} {i D : Nat} {x : Obj} {d : List Deferred} (hm : Mem C H nx S m w) (hi : hlook H i = some (.raw x)) (hD : m i = some (some D))
    (hsub : ∀ k o, hlook H2 k = some o → hlook H k = some o ∧ k ≠ i) : Mem ⟨w, fun b => (C.w0.heap.size ≤ b ∨ C.own0 b) ∧ b ≠ D, S, C.m0, C.n0, d⟩ H2 nx S m w := by
  refine ⟨⟨rfl, Nat.le_refl _⟩, rfl, rfl, fun _ _ => rfl, Nat.le_refl _, fun _ _ _ => rfl, ⟨fun _ h => h, fun _ _ => rfl, hm.le.ids, fun _ _ h => h⟩, fun b h => .inl h, hm.n0, fun k o h => hm.objs k o (hsub k o h).1, fun k o b h hb => ?_,
    fun k1 k2 o1 o2 b h1 h2 => hm.inj k1 k2 o1 o2 b (hsub _ _ h1).1 (hsub _ _ h2).1, hm.stab, hm.fresh, ?_⟩
  · obtain ⟨h1, h2⟩ := hsub k o h
    obtain ⟨k1, k2, k3⟩ := hm.blk k o b h1 hb
    exact ⟨k1, k2, .inr ⟨k3, fun e => by subst e; exact h2 (hm.inj k i _ _ _ h1 hi hb hD)⟩⟩
  · obtain ⟨ib, hn⟩ := hm.nst
    refine ⟨_, hn.keep (fun i => i) (fun id sz i j isz irows hO => ⟨hO.of fun o h => (hsub _ _ h).1, rfl⟩) (fun _ _ _ _ _ _ _ _ _ _ _ _ _ _ h => h) (fun _ h => h) (fun _ _ => rfl) (fun id sz i j isz irows b2 c2 e2 u hO k1 k2 k3 => ⟨c2, e2, k2, k3⟩) (fun id sz r j isz irows b' hO hb2 h1 h2 h3 h4 => ⟨rfl, h1, h2, .inr ⟨h3, fun e => h4 _ _ hi (e ▸ hD)⟩, fun id2 o2 h5 => h4 _ _ (hsub _ _ h5).1⟩)⟩
def tmpsP (G : Env) (N : Nat) : List PV := (List.range N).map fun i => (look G i).getD .any
section
variable {P : Program} {C : Cx} {N : Nat} {G : Env} {H : Hp} {nx : Nat} {Q : Exit → Act → World → Prop}
/-- a slot holds a closure -/
inductive CloAt (G : Env) (t : Tmp) (f : FuncId) : List PV → Prop where
  | own (caps : List PV) : look G t = some (.clo f [] caps) → CloAt G t f caps
  | fz (fs : List FV) : look G t = some (.fz (.clo f fs)) → CloAt G t f (fs.map PV.fz)
theorem CloAt.val {t : Tmp} {f : FuncId} {caps : List PV} (h : CloAt G t f caps) {S : Nat → Prop} {m : Ids} {w : World} {a : Act} (hsl : ∀ t q, look G t = some q → RepAt w S m a t q) : ∃ cs : Array Value, a.eval (.tmp t) = .func (.func f) #[] cs ∧ cs.size = caps.length ∧ ∀ (i : Nat) (c : Value) (p : PV), cs[i]? = some c → caps[i]? = some p → Rep w S m c p := by
  cases h with
  | own _ hl =>
    obtain ⟨v, hv, hr⟩ := hsl t _ hl
    cases hr with
    | clo _ as0 cs _ _ q1 q2 q3 q4 =>
      have has : as0 = #[] := by simpa using q1
      subst has
      exact ⟨cs, by simp [Act.eval, hv], q2, q4⟩
  | fz fs hl =>
    obtain ⟨v, hv, hr⟩ := hsl t _ hl
    cases hr with
    | fz _ _ hr =>
      cases hr with
      | clo _ cs _ q2 q4 =>
        refine ⟨cs, by simp [Act.eval, hv], by simpa using q2, fun i c p hc hp => ?_⟩
        rw [List.getElem?_map] at hp
        obtain ⟨q, hq, rfl⟩ := Option.map_eq_some_iff.1 hp
        exact .fz _ _ (q4 i c q hc hq)
theorem n_range {t : Tmp} {p : Nat} {assign body : Code} {f : FuncId} [hfb : FnB P f] {caps capsI tps : List PV} {n n' r0 : Nat} {Hin : Loop → Hp} {Hm : Hp} {res : PV} (L : List Nat) (j : Option Code) {H2 : Hp} {n2 : Nat}
    (hM : ∀ rc : Loop, rc.state = .ready → rc.pending = none → rc.params = #[p] → rc.assign = assign → rc.body = body → rc.tmps.size = N → Meets P f (.yl r0 rc.tmps tps :: capsI) n (Hin rc) res ((r0, some (.raw (.loop { rc with state := if j.isNone then .ready else .done, pending := j }))) :: Hm) n')
    (hg : CloAt G t f caps) (hr0 : renI L r0 = nx + 1) (htps : tps.map (renP L) = tmpsP G N) (hcaps : capsI.map (renP L) = caps) (hb0 : Nat.blt r0 n = true) (hlt : ltPs n tps = true) (hltc : capsI.all (ltP n) = true)
    (hL : ∀ rc, Lent L n ((nx + 1, some (.raw (.loop rc))) :: (nx, some (.raw (.deferred (some [])))) :: H) (Hin rc)) (hnx : L.contains nx = false) (hnn : Nat.ble n n' = true) (hHo : Hm.all (fun x => Nat.blt x.1 n') = true)
    (hH : (nx, none) :: (nx + 1, none) :: callH (L ++ List.range' (nx + 2) (n' - n)) Hm L H = H2) (hn2 : nx + 2 + (n' - n) = n2)
    (hpost : ∀ C' D, After C C' D → Next C' N G H2 n2 (match j with | none => Q .normal | some c => c.wpM none P Q)) : Next C N G H nx ((Code.rangeFunc (.tmp t) #[p] assign body).wpM none P Q) := fun a w hR => by
  subst hH; subst hn2
  obtain ⟨S, m, hm, hsl⟩ := hR.mem
  refine wpIn_rangeFunc fun fn _ => ?_
  obtain ⟨cs, hev, q2, q4⟩ := hg.val hsl
  obtain ⟨rc, hrc⟩ : ∃ rc : Loop, rc = { state := .ready, pending := none, fn := fn, tmps := a.tmps, params := #[p], assign := assign, body := body, defers := w.heap.size } := ⟨_, rfl⟩
  obtain ⟨a1, a2⟩ := hm.newRaw (.deferred (some []))
  obtain ⟨b1, b2⟩ := a1.newRaw (.loop rc)
  have hsz : (w.alloc (.deferred (some []))).heap.size = w.heap.size + 1 := by simp
  rw [hsz] at b1 b2
  have hle := a2.trans b2
  obtain ⟨fnn, k1, k2, k3⟩ := hfb.h
  refine ⟨w.heap.size + 1, [{ target := .collected w.heap.size, args := #[] }], (w.alloc (.deferred (some []))).alloc (.loop rc), { target := .fn (.func f) cs, args := #[.func (.yield (w.heap.size + 1)) #[] #[]] }, (w.alloc (.deferred (some []))).alloc (.loop rc), f, (Value.func (.yield (w.heap.size + 1)) #[] #[] :: cs.toList).toArray, (w.alloc (.deferred (some []))).alloc (.loop rc), ?_, ?_, fun _ _ => trivial, ?_, fun h => by simp [FM] at h, ?_⟩
  · exact (run_enterLoop_outer fn a.tmps #[p] assign body).trans (by rw [← hrc])
  · simp only [resolve, hev]
    simp [Deferred.ofValue, Act.eval]
  · have h4 : ¬ (fnn.body = none) := by intro e; rw [e] at k3; cases k3
    have h5 : ¬ (fnn.name = "runtime.NumGoroutine") := by simpa using k2
    simp [invoke, callFunc, k1, h4, h5]
  · have hrl : r0 < L.length := by rw [(hL rc).len]; exact blt_of hb0
    have hc := call_core (P := P) b1 (hM rc (by rw [hrc]) (by rw [hrc]) (by rw [hrc]) (by rw [hrc]) (by rw [hrc]) (by rw [hrc]; exact hR.size)) (hL rc) (Nat.le_of_ble_eq_true hnn) (fun x hx => by
        rcases List.mem_cons.1 hx with rfl | hx
        · exact Nat.lt_of_lt_of_le (blt_of hb0) (Nat.le_of_ble_eq_true hnn)
        · exact blt_of (List.all_eq_true.1 hHo x hx)) (vs := Value.func (.yield (w.heap.size + 1)) #[] #[] :: cs.toList) (by
      have := congrArg List.length hcaps
      simp at this; simp [this, q2]) (fun i v q h1 h2 => by
      cases i with
      | zero =>
        simp at h1 h2; subst h1; subst h2
        refine ⟨?_, by simp only [ltP, Bool.and_eq_true]; exact ⟨hb0, hlt⟩⟩
        have ht : rc.tmps = a.tmps := by rw [hrc]
        simp only [renP, renPs_eq, hr0, htps, ht]
        refine .yl _ _ _ _ (setM_self _ _ _) (by simp [tmpsP, hR.size]) fun i c q hi hq => ?_
        simp only [tmpsP, List.getElem?_map] at hq
        obtain ⟨i', hi', rfl⟩ := Option.map_eq_some_iff.1 hq
        have : i' = i := by
          rw [List.getElem?_range (by have := (List.getElem?_eq_some_iff.1 hi').1; simpa using this)] at hi'
          simpa using hi'.symm
        subst this
        cases hlk : look G i' with
        | none => exact .any _
        | some q' =>
          obtain ⟨v, hv, hr⟩ := hsl i' q' hlk
          rw [hv] at hi; cases hi
          exact hr.mono hle
      | succ i =>
        have h1' : cs[i]? = some v := by simpa using h1
        have h2' : capsI[i]? = some q := by simpa using h2
        refine ⟨(q4 i v _ h1' (by rw [← hcaps, List.getElem?_map, h2']; rfl)).mono hle, List.all_eq_true.1 hltc q (List.mem_of_getElem? h2')⟩)
    refine callsIn_FM.2 (hc.mono fun e w3 ⟨v, S', m', he, hm3, hle3, _⟩ => ?_)
    subst he
    have hr0' : renI (L ++ List.range' (nx + 1 + 1) (n' - n)) r0 = nx + 1 := by
      rw [← hr0]; simp only [renI, List.getD_eq_getElem?_getD]; rw [List.getElem?_append_left hrl]
    -- the record
    have hlk1 : hlook (callH (L ++ List.range' (nx + 1 + 1) (n' - n)) ((r0, some (.raw (.loop { rc with state := if j.isNone then .ready else .done, pending := j }))) :: Hm) L ((nx + 1, some (.raw (.loop rc))) :: (nx, some (.raw (.deferred (some [])))) :: H)) (nx + 1) = some (.raw (.loop { rc with state := if j.isNone then .ready else .done, pending := j })) := by
      simp only [callH, List.map_cons, renE, List.cons_append, hlook_cons, hr0', if_true, Option.map_some, renO]
    have hid1 : m' (nx + 1) = some (some (w.heap.size + 1)) := hle3.ids _ _ (setM_self _ _ _)
    have hidD : m' nx = some (some w.heap.size) := hle3.ids _ _ (by rw [setM_other (by omega)]; exact setM_self _ _ _)
    obtain ⟨b, h1, h2⟩ := hm3.raw hlk1
    rw [hid1] at h1; cases h1
    have hend := run_endLoop (P := P) h2 (by cases j <;> simp)
    obtain ⟨c1, c2⟩ := hm3.rawSet (.loop { rc with state := .exhausted, pending := j }) hlk1 hid1 rfl rfl
    -- the mark's block
    have hkey : ∀ k, k ∈ (Hm.map (renE (L ++ List.range' (nx + 1 + 1) (n' - n)))).map (·.1) → k ≠ nx := fun k hk e => by
      subst e
      simp only [List.map_map, List.mem_map] at hk
      obtain ⟨x, hx, he⟩ := hk
      have hxl := blt_of (List.all_eq_true.1 hHo x hx)
      have hnn' := Nat.le_of_ble_eq_true hnn
      simp only [Function.comp, renE, renI, List.getD_eq_getElem?_getD, List.getElem?_append] at he
      split at he
      · rename_i hlt'
        rw [List.getElem?_eq_getElem hlt'] at he
        simp only [Option.getD_some] at he
        have : L.contains k = true := by rw [List.contains_iff_mem, ← he]; exact List.getElem_mem hlt'
        rw [hnx] at this; cases this
      · rename_i hge
        rw [List.getElem?_range' (by rw [(hL rc).len] at hge ⊢; omega)] at he
        simp at he; omega
    have hkill : ∀ k, k ∈ (L.map fun i => (i, (none : Option Ob))).map (·.1) → k ≠ nx := fun k hk e => by
      subst e
      have hk2 : k ∈ L := by simpa using hk
      have : L.contains k = true := List.contains_iff_mem.2 hk2
      rw [hnx] at this; cases this
    have hlkD : hlook ((nx + 1, some (.raw (.loop { rc with state := .exhausted, pending := j }))) :: callH (L ++ List.range' (nx + 1 + 1) (n' - n)) ((r0, some (.raw (.loop { rc with state := if j.isNone then .ready else .done, pending := j }))) :: Hm) L ((nx + 1, some (.raw (.loop rc))) :: (nx, some (.raw (.deferred (some [])))) :: H)) nx = some (.raw (.deferred (some []))) := by
      simp only [callH, List.map_cons, renE, List.cons_append, hlook_cons, hr0']
      rw [if_neg (by omega), if_neg (by omega), hlook_append, if_neg, hlook_cons, if_neg (by omega), hlook_cons, if_pos rfl]
      intro hk
      rw [List.map_append, List.mem_append] at hk
      rcases hk with hk | hk
      · exact hkey nx hk rfl
      · exact hkill nx hk rfl
    have hsub : ∀ k o, hlook ((nx, none) :: (nx + 1, none) :: callH (L ++ List.range' (nx + 2) (n' - n)) Hm L H) k = some o → hlook ((nx + 1, some (.raw (.loop { rc with state := .exhausted, pending := j }))) :: callH (L ++ List.range' (nx + 1 + 1) (n' - n)) ((r0, some (.raw (.loop { rc with state := if j.isNone then .ready else .done, pending := j }))) :: Hm) L ((nx + 1, some (.raw (.loop rc))) :: (nx, some (.raw (.deferred (some [])))) :: H)) k = some o ∧ k ≠ nx := fun k o hk => by
      rw [hlook_cons] at hk
      by_cases e1 : nx = k
      · rw [if_pos e1] at hk; cases hk
      · rw [if_neg e1, hlook_cons] at hk
        by_cases e2 : nx + 1 = k
        · rw [if_pos e2] at hk; cases hk
        · rw [if_neg e2] at hk
          refine ⟨?_, fun e => e1 e.symm⟩
          rw [hlook_cons, if_neg e2]
          simp only [callH, List.map_cons, List.cons_append] at hk ⊢
          rw [show renE (L ++ List.range' (nx + 1 + 1) (n' - n)) (r0, some (Ob.raw (.loop { rc with state := if j.isNone then .ready else .done, pending := j }))) = (nx + 1, some (.raw (.loop { rc with state := if j.isNone then .ready else .done, pending := j }))) by simp only [renE, hr0', Option.map_some, renO], hlook_cons, if_neg e2]
          rw [hlook_append] at hk ⊢
          split at hk
          · rename_i hmem; rw [if_pos hmem]; exact hk
          · rename_i hmem; rw [if_neg hmem, hlook_cons, if_neg e2, hlook_cons, if_neg e1]; exact hk
    obtain ⟨bD, d1, d2⟩ := c1.raw hlkD
    rw [hidD] at d1; cases d1
    have hmem := c1.restart (d := { target := .collected w.heap.size, args := #[] } :: C.df) hlkD hidD hsub
    have hA : After C ⟨_, fun b => (C.w0.heap.size ≤ b ∨ C.own0 b) ∧ b ≠ w.heap.size, S', C.m0, C.n0, { target := .collected w.heap.size, args := #[] } :: C.df⟩ w.heap.size :=
      ⟨rfl, rfl, rfl, fun b => Iff.rfl, ⟨_, _, _, c1⟩, d2, (c1.blk _ _ _ hlkD hidD).1, hm.size⟩
    have hfin := hpost _ _ hA { a with defers := [{ target := .collected w.heap.size, args := #[] }] ++ a.defers } _ ⟨by rw [hR.defers]; rfl, hR.size, S', m', hmem, fun t q hq => (hsl t q hq).mono ((hle.trans hle3).trans c2)⟩
    refine ⟨j, _, hend, ?_⟩
    cases j with
    | none => exact hfin
    | some c => exact hfin
/-- what is skipped -/
theorem op_never {o : Oper} {g : Bool} {p : PV} (h : g = false) : ∀ H nx, OpS P o g G H nx p H nx := fun H nx => ⟨fun C S m a w hm hg => by rw [h] at hg; cases hg⟩
theorem Mem.keepH {S : Nat → Prop} {m : Ids} {w : World} (hm : Mem C H nx S m w) {H' : Hp} (hH : ∀ i o, hlook H' i = some o → hlook H i = some o) : Mem C H' nx S m w :=
  hm.step (Le.refl _ _ _) ⟨rfl, Nat.le_refl _⟩ rfl rfl (fun _ _ => rfl) (Nat.le_refl _) (fun _ _ _ => rfl) (fun _ h => .inl h) (fun i o ho => hm.objs i o (hH i o ho)) (fun i o b ho => hm.blk i o b (hH i o ho))
    (fun i j o o' b h1 h2 => hm.inj i j o o' b (hH _ _ h1) (hH _ _ h2)) hm.stab hm.fresh (hm.nkeep (Le.refl _ _ _) (Nat.le_refl _) (fun _ _ _ _ _ _ h => h.of fun o h => hH _ _ h) (fun _ _ _ _ _ _ _ c e _ _ _ k2 k3 => ⟨c, e, k2, k3⟩) (fun b' _ h2 h3 => ⟨rfl, h2, fun id2 o2 h => h3 _ _ (hH _ _ h)⟩))
theorem MeetsD.keepH {D : Array Value → World → (Ending → World → Prop) → Prop} (hD : ∀ args w R R', D args w R → (∀ e w', R e w' → R' e w') → D args w R') {args : List PV} {n n' : Nat} {Hin Hout Hout' : Hp} {res : PV} (h : MeetsD D args n Hin res Hout n') (hH : ∀ i o, hlook Hout' i = some o → hlook Hout i = some o) : MeetsD D args n Hin res Hout' n' :=
  ⟨fun C vs h1 h2 h3 h4 => hD _ _ _ _ (h.run C vs h1 h2 h3 h4) fun e w' ⟨v, S', m', k1, k2, k3⟩ => ⟨v, S', m', k1, k2.keepH hH, k3⟩⟩
theorem Meets.keepH {f : FuncId} {args : List PV} {n n' : Nat} {Hin Hout Hout' : Hp} {res : PV} (h : Meets P f args n Hin res Hout n') (hH : ∀ i o, hlook Hout' i = some o → hlook Hout i = some o) : Meets P f args n Hin res Hout' n' :=
  ⟨fun C vs h1 h2 h3 h4 => Calls.mono (h.run C vs h1 h2 h3 h4) fun e w' ⟨v, S', m', k1, k2, k3⟩ => ⟨v, S', m', k1, k2.keepH hH, k3⟩⟩
/-- the record behind a round -/
def endR (rc : Loop) (j : Option Code) : Loop := { rc with state := if j.isNone then .ready else .done, pending := j }
theorem endR_none {rc : Loop} (h1 : rc.state = .ready) (h2 : rc.pending = none) : endR rc none = rc := by
  cases rc; simp only at h1 h2; subst h1; subst h2; rfl
theorem tGt {g : Bool} (h : g = true := by first | rfl | decide | simp) : g = true := h
end
end Go.RT
/- The types and functions of the translation, as the rules ask for them. Written by tab.py. -/
namespace Go.Proofs.Ytinddhlmgiahiaa
open Go Go.RT Go.Proofs
set_option linter.unusedVariables false
theorem mixed : Try.prog.follows .mixedOrders = true := Try.checked.mixed
theorem tyn_of {P : Program} {t : TypeId} {s b : Nat} {z : Value} (h : (P.info? t).map (fun i => (i.size, i.bytes, i.zero)) = some (s, b, some z)) : TyN P t s b z := by
  obtain ⟨i, hi, he⟩ := Option.map_eq_some_iff.1 h
  simp only [Prod.mk.injEq] at he
  exact ⟨i, hi, he.1, he.2.1, he.2.2⟩
instance : TyA Try.prog 1 false := ⟨_, Try.underlying1, rfl⟩
instance : TyN Try.prog 1 1 8 (.nilFunc) := tyn_of (by kernel_rfl)
instance : TyD Try.prog 2 (.int .i64) := ⟨Try.underlying2⟩
instance : TyA Try.prog 2 false := ⟨_, Try.underlying2, rfl⟩
instance : TyN Try.prog 2 1 8 (.int .i64 0) := tyn_of (by kernel_rfl)
instance : TyD Try.prog 3 (.int .i64) := ⟨Try.underlying3⟩
instance : TyA Try.prog 3 false := ⟨_, Try.underlying3, rfl⟩
instance : TyN Try.prog 3 1 8 (.int .i64 0) := tyn_of (by kernel_rfl)
instance : TyD Try.prog 4 (.bool) := ⟨Try.underlying4⟩
instance : TyA Try.prog 4 false := ⟨_, Try.underlying4, rfl⟩
instance : TyN Try.prog 4 1 1 (.bool false) := tyn_of (by kernel_rfl)
instance : TyD Try.prog 5 (.int .u8) := ⟨Try.underlying5⟩
instance : TyA Try.prog 5 false := ⟨_, Try.underlying5, rfl⟩
instance : TyN Try.prog 5 1 1 (.int .u8 0) := tyn_of (by kernel_rfl)
instance : TyD Try.prog 9 (.string) := ⟨Try.underlying9⟩
instance : TyA Try.prog 9 false := ⟨_, Try.underlying9, rfl⟩
instance : TyN Try.prog 9 1 16 (.string ⟨#[]⟩) := tyn_of (by kernel_rfl)
instance : TyD Try.prog 12 (.int .u64) := ⟨Try.underlying12⟩
instance : TyA Try.prog 12 false := ⟨_, Try.underlying12, rfl⟩
instance : TyN Try.prog 12 1 8 (.int .u64 0) := tyn_of (by kernel_rfl)
instance : TyA Try.prog 13 true := ⟨_, Try.underlying13, rfl⟩
instance : TyN Try.prog 13 2 24 (.agg #[.string ⟨#[]⟩, .int .u64 0]) := tyn_of (by kernel_rfl)
instance : TyF Try.prog 13 0 0 9 := ⟨_, _, Try.underlying13, rfl, rfl, rfl⟩
instance : TyF Try.prog 13 1 1 12 := ⟨_, _, Try.underlying13, rfl, rfl, rfl⟩
instance : TyB Try.prog 13 [(0, 1), (1, 1)] := ⟨_, Try.underlying13, fun w => by kernel_rfl⟩
instance : TyD Try.prog 21 (.int .i32) := ⟨Try.underlying21⟩
instance : TyA Try.prog 21 false := ⟨_, Try.underlying21, rfl⟩
instance : TyN Try.prog 21 1 4 (.int .i32 0) := tyn_of (by kernel_rfl)
instance : TyD Try.prog 22 (.slice 37) := ⟨Try.underlying22⟩
instance : TyA Try.prog 22 false := ⟨_, Try.underlying22, rfl⟩
instance : TyN Try.prog 22 1 24 (.slice none 0 0) := tyn_of (by kernel_rfl)
instance : TyD Try.prog 23 (.slice 3) := ⟨Try.underlying23⟩
instance : TyA Try.prog 23 false := ⟨_, Try.underlying23, rfl⟩
instance : TyN Try.prog 23 1 24 (.slice none 0 0) := tyn_of (by kernel_rfl)
instance : TyA Try.prog 24 false := ⟨_, Try.underlying24, rfl⟩
instance : TyN Try.prog 24 1 8 (.nilFunc) := tyn_of (by kernel_rfl)
instance : TyD Try.prog 25 (.int .i64) := ⟨Try.underlying25⟩
instance : TyA Try.prog 25 false := ⟨_, Try.underlying25, rfl⟩
instance : TyN Try.prog 25 1 8 (.int .i64 0) := tyn_of (by kernel_rfl)
instance : TyA Try.prog 26 false := ⟨_, Try.underlying26, rfl⟩
instance : TyN Try.prog 26 1 8 (.nilFunc) := tyn_of (by kernel_rfl)
instance : TyA Try.prog 27 false := ⟨_, Try.underlying27, rfl⟩
instance : TyN Try.prog 27 1 8 (.nilFunc) := tyn_of (by kernel_rfl)
instance : TyA Try.prog 28 false := ⟨_, Try.underlying28, rfl⟩
instance : TyN Try.prog 28 1 8 (.nilFunc) := tyn_of (by kernel_rfl)
instance : TyA Try.prog 29 false := ⟨_, Try.underlying29, rfl⟩
instance : TyN Try.prog 29 1 8 (.nilFunc) := tyn_of (by kernel_rfl)
instance : TyA Try.prog 30 false := ⟨_, Try.underlying30, rfl⟩
instance : TyN Try.prog 30 1 8 (.nilFunc) := tyn_of (by kernel_rfl)
instance : TyD Try.prog 31 (.int .u32) := ⟨Try.underlying31⟩
instance : TyA Try.prog 31 false := ⟨_, Try.underlying31, rfl⟩
instance : TyN Try.prog 31 1 4 (.int .u32 0) := tyn_of (by kernel_rfl)
instance : TyD Try.prog 32 (.int .u32) := ⟨Try.underlying32⟩
instance : TyA Try.prog 32 false := ⟨_, Try.underlying32, rfl⟩
instance : TyN Try.prog 32 1 4 (.int .u32 0) := tyn_of (by kernel_rfl)
instance : TyA Try.prog 33 true := ⟨_, Try.underlying33, rfl⟩
instance : TyN Try.prog 33 2 16 (.agg #[.int .u32 0, .int .i64 0]) := tyn_of (by kernel_rfl)
instance : TyF Try.prog 33 0 0 32 := ⟨_, _, Try.underlying33, rfl, rfl, rfl⟩
instance : TyF Try.prog 33 1 1 3 := ⟨_, _, Try.underlying33, rfl, rfl, rfl⟩
instance : EqS Try.prog 33 2 := ⟨by kernel_rfl, by kernel_rfl, by kernel_rfl, by kernel_rfl⟩
instance : TyB Try.prog 33 [(0, 1), (1, 1)] := ⟨_, Try.underlying33, fun w => by kernel_rfl⟩
instance : TyA Try.prog 34 true := ⟨_, Try.underlying34, rfl⟩
instance : TyN Try.prog 34 2 16 (.agg #[.int .u32 0, .int .i64 0]) := tyn_of (by kernel_rfl)
instance : TyF Try.prog 34 0 0 32 := ⟨_, _, Try.underlying34, rfl, rfl, rfl⟩
instance : TyF Try.prog 34 1 1 3 := ⟨_, _, Try.underlying34, rfl, rfl, rfl⟩
instance : EqS Try.prog 34 2 := ⟨by kernel_rfl, by kernel_rfl, by kernel_rfl, by kernel_rfl⟩
instance : TyB Try.prog 34 [(0, 1), (1, 1)] := ⟨_, Try.underlying34, fun w => by kernel_rfl⟩
instance : TyD Try.prog 35 (.slice 52) := ⟨Try.underlying35⟩
instance : TyA Try.prog 35 false := ⟨_, Try.underlying35, rfl⟩
instance : TyN Try.prog 35 1 24 (.slice none 0 0) := tyn_of (by kernel_rfl)
instance : TyA Try.prog 36 true := ⟨_, Try.underlying36, rfl⟩
instance : TyN Try.prog 36 7 72 (.agg #[.int .u32 0, .int .i64 0, .int .i64 0, .int .i64 0, .int .i64 0, .int .i64 0, .slice none 0 0]) := tyn_of (by kernel_rfl)
instance : TyF Try.prog 36 0 0 34 := ⟨_, _, Try.underlying36, rfl, rfl, rfl⟩
instance : TyF Try.prog 36 1 2 3 := ⟨_, _, Try.underlying36, rfl, rfl, rfl⟩
instance : TyF Try.prog 36 2 3 3 := ⟨_, _, Try.underlying36, rfl, rfl, rfl⟩
instance : TyF Try.prog 36 3 4 3 := ⟨_, _, Try.underlying36, rfl, rfl, rfl⟩
instance : TyF Try.prog 36 4 5 3 := ⟨_, _, Try.underlying36, rfl, rfl, rfl⟩
instance : TyF Try.prog 36 5 6 35 := ⟨_, _, Try.underlying36, rfl, rfl, rfl⟩
instance : TyB Try.prog 36 [(0, 2), (2, 1), (3, 1), (4, 1), (5, 1), (6, 1)] := ⟨_, Try.underlying36, fun w => by kernel_rfl⟩
instance : TyA Try.prog 37 true := ⟨_, Try.underlying37, rfl⟩
instance : TyN Try.prog 37 7 72 (.agg #[.int .u32 0, .int .i64 0, .int .i64 0, .int .i64 0, .int .i64 0, .int .i64 0, .slice none 0 0]) := tyn_of (by kernel_rfl)
instance : TyF Try.prog 37 0 0 34 := ⟨_, _, Try.underlying37, rfl, rfl, rfl⟩
instance : TyF Try.prog 37 1 2 3 := ⟨_, _, Try.underlying37, rfl, rfl, rfl⟩
instance : TyF Try.prog 37 2 3 3 := ⟨_, _, Try.underlying37, rfl, rfl, rfl⟩
instance : TyF Try.prog 37 3 4 3 := ⟨_, _, Try.underlying37, rfl, rfl, rfl⟩
instance : TyF Try.prog 37 4 5 3 := ⟨_, _, Try.underlying37, rfl, rfl, rfl⟩
instance : TyF Try.prog 37 5 6 35 := ⟨_, _, Try.underlying37, rfl, rfl, rfl⟩
instance : TyB Try.prog 37 [(0, 2), (2, 1), (3, 1), (4, 1), (5, 1), (6, 1)] := ⟨_, Try.underlying37, fun w => by kernel_rfl⟩
instance : TyA Try.prog 39 false := ⟨_, Try.underlying39, rfl⟩
instance : TyN Try.prog 39 1 8 (.nilFunc) := tyn_of (by kernel_rfl)
instance : TyA Try.prog 40 false := ⟨_, Try.underlying40, rfl⟩
instance : TyN Try.prog 40 1 8 (.nilFunc) := tyn_of (by kernel_rfl)
instance : TyA Try.prog 41 false := ⟨_, Try.underlying41, rfl⟩
instance : TyN Try.prog 41 1 8 (.nilFunc) := tyn_of (by kernel_rfl)
instance : TyA Try.prog 42 false := ⟨_, Try.underlying42, rfl⟩
instance : TyN Try.prog 42 1 8 (.nilFunc) := tyn_of (by kernel_rfl)
instance : TyD Try.prog 43 (.slice 34) := ⟨Try.underlying43⟩
instance : TyA Try.prog 43 false := ⟨_, Try.underlying43, rfl⟩
instance : TyN Try.prog 43 1 24 (.slice none 0 0) := tyn_of (by kernel_rfl)
instance : TyA Try.prog 44 false := ⟨_, Try.underlying44, rfl⟩
instance : TyN Try.prog 44 1 8 (.nilFunc) := tyn_of (by kernel_rfl)
instance : TyA Try.prog 45 false := ⟨_, Try.underlying45, rfl⟩
instance : TyN Try.prog 45 1 8 (.nilFunc) := tyn_of (by kernel_rfl)
instance : TyA Try.prog 46 false := ⟨_, Try.underlying46, rfl⟩
instance : TyN Try.prog 46 1 8 (.nilFunc) := tyn_of (by kernel_rfl)
instance : TyA Try.prog 47 false := ⟨_, Try.underlying47, rfl⟩
instance : TyN Try.prog 47 1 8 (.nilFunc) := tyn_of (by kernel_rfl)
instance : TyA Try.prog 48 false := ⟨_, Try.underlying48, rfl⟩
instance : TyN Try.prog 48 1 8 (.nilFunc) := tyn_of (by kernel_rfl)
instance : TyA Try.prog 49 false := ⟨_, Try.underlying49, rfl⟩
instance : TyN Try.prog 49 1 8 (.nilFunc) := tyn_of (by kernel_rfl)
instance : TyA Try.prog 50 false := ⟨_, Try.underlying50, rfl⟩
instance : TyN Try.prog 50 1 8 (.nilFunc) := tyn_of (by kernel_rfl)
instance : TyA Try.prog 51 true := ⟨_, Try.underlying51, rfl⟩
instance : TyN Try.prog 51 6 48 (.agg #[.int .u32 0, .int .i64 0, .int .u32 0, .int .i64 0, .int .u32 0, .int .i64 0]) := tyn_of (by kernel_rfl)
instance : TyF Try.prog 51 0 0 32 := ⟨_, _, Try.underlying51, rfl, rfl, rfl⟩
instance : TyF Try.prog 51 1 1 3 := ⟨_, _, Try.underlying51, rfl, rfl, rfl⟩
instance : TyF Try.prog 51 2 2 31 := ⟨_, _, Try.underlying51, rfl, rfl, rfl⟩
instance : TyF Try.prog 51 3 3 3 := ⟨_, _, Try.underlying51, rfl, rfl, rfl⟩
instance : TyF Try.prog 51 4 4 34 := ⟨_, _, Try.underlying51, rfl, rfl, rfl⟩
instance : TyB Try.prog 51 [(0, 1), (1, 1), (2, 1), (3, 1), (4, 2)] := ⟨_, Try.underlying51, fun w => by kernel_rfl⟩
instance : TyA Try.prog 52 true := ⟨_, Try.underlying52, rfl⟩
instance : TyN Try.prog 52 6 48 (.agg #[.int .u32 0, .int .i64 0, .int .u32 0, .int .i64 0, .int .u32 0, .int .i64 0]) := tyn_of (by kernel_rfl)
instance : TyF Try.prog 52 0 0 32 := ⟨_, _, Try.underlying52, rfl, rfl, rfl⟩
instance : TyF Try.prog 52 1 1 3 := ⟨_, _, Try.underlying52, rfl, rfl, rfl⟩
instance : TyF Try.prog 52 2 2 31 := ⟨_, _, Try.underlying52, rfl, rfl, rfl⟩
instance : TyF Try.prog 52 3 3 3 := ⟨_, _, Try.underlying52, rfl, rfl, rfl⟩
instance : TyF Try.prog 52 4 4 34 := ⟨_, _, Try.underlying52, rfl, rfl, rfl⟩
instance : TyB Try.prog 52 [(0, 1), (1, 1), (2, 1), (3, 1), (4, 2)] := ⟨_, Try.underlying52, fun w => by kernel_rfl⟩
instance : TyD Try.prog 53 (.map 56 4) := ⟨Try.underlying53⟩
instance : TyA Try.prog 53 false := ⟨_, Try.underlying53, rfl⟩
instance : TyN Try.prog 53 1 8 (.map none) := tyn_of (by kernel_rfl)
instance : TyA Try.prog 54 false := ⟨_, Try.underlying54, rfl⟩
instance : TyN Try.prog 54 1 8 (.nilFunc) := tyn_of (by kernel_rfl)
instance : TyA Try.prog 55 true := ⟨_, Try.underlying55, rfl⟩
instance : TyN Try.prog 55 3 24 (.agg #[.int .u32 0, .int .i64 0, .int .i64 0]) := tyn_of (by kernel_rfl)
instance : TyF Try.prog 55 0 0 34 := ⟨_, _, Try.underlying55, rfl, rfl, rfl⟩
instance : TyF Try.prog 55 1 2 3 := ⟨_, _, Try.underlying55, rfl, rfl, rfl⟩
instance : TyB Try.prog 55 [(0, 2), (2, 1)] := ⟨_, Try.underlying55, fun w => by kernel_rfl⟩
instance : TyA Try.prog 56 true := ⟨_, Try.underlying56, rfl⟩
instance : TyN Try.prog 56 3 24 (.agg #[.int .u32 0, .int .i64 0, .int .i64 0]) := tyn_of (by kernel_rfl)
instance : TyF Try.prog 56 0 0 34 := ⟨_, _, Try.underlying56, rfl, rfl, rfl⟩
instance : TyF Try.prog 56 1 2 3 := ⟨_, _, Try.underlying56, rfl, rfl, rfl⟩
instance : TyB Try.prog 56 [(0, 2), (2, 1)] := ⟨_, Try.underlying56, fun w => by kernel_rfl⟩
instance : TyA Try.prog 57 false := ⟨_, Try.underlying57, rfl⟩
instance : TyN Try.prog 57 1 8 (.nilFunc) := tyn_of (by kernel_rfl)
instance : TyA Try.prog 58 false := ⟨_, Try.underlying58, rfl⟩
instance : TyN Try.prog 58 1 8 (.nilFunc) := tyn_of (by kernel_rfl)
instance : TyA Try.prog 59 false := ⟨_, Try.underlying59, rfl⟩
instance : TyN Try.prog 59 1 8 (.nilFunc) := tyn_of (by kernel_rfl)
instance : TyA Try.prog 60 false := ⟨_, Try.underlying60, rfl⟩
instance : TyN Try.prog 60 1 8 (.nilFunc) := tyn_of (by kernel_rfl)
instance : TyA Try.prog 61 false := ⟨_, Try.underlying61, rfl⟩
instance : TyN Try.prog 61 1 8 (.nilFunc) := tyn_of (by kernel_rfl)
instance : TyA Try.prog 62 false := ⟨_, Try.underlying62, rfl⟩
instance : TyN Try.prog 62 1 8 (.nilFunc) := tyn_of (by kernel_rfl)
instance : TyA Try.prog 63 false := ⟨_, Try.underlying63, rfl⟩
instance : TyN Try.prog 63 1 8 (.nilFunc) := tyn_of (by kernel_rfl)
instance : TyA Try.prog 64 false := ⟨_, Try.underlying64, rfl⟩
instance : TyN Try.prog 64 1 8 (.nilFunc) := tyn_of (by kernel_rfl)
instance : TyD Try.prog 65 (.map 34 37) := ⟨Try.underlying65⟩
instance : TyA Try.prog 65 false := ⟨_, Try.underlying65, rfl⟩
instance : TyN Try.prog 65 1 8 (.map none) := tyn_of (by kernel_rfl)
instance : TyA Try.prog 66 false := ⟨_, Try.underlying66, rfl⟩
instance : TyN Try.prog 66 1 8 (.nilFunc) := tyn_of (by kernel_rfl)
instance : TyA Try.prog 67 false := ⟨_, Try.underlying67, rfl⟩
instance : TyN Try.prog 67 1 8 (.nilFunc) := tyn_of (by kernel_rfl)
instance : TyA Try.prog 69 false := ⟨_, Try.underlying69, rfl⟩
instance : TyN Try.prog 69 1 8 (.nilFunc) := tyn_of (by kernel_rfl)
instance : TyA Try.prog 70 false := ⟨_, Try.underlying70, rfl⟩
instance : TyN Try.prog 70 1 8 (.nilFunc) := tyn_of (by kernel_rfl)
instance : TyA Try.prog 71 false := ⟨_, Try.underlying71, rfl⟩
instance : TyN Try.prog 71 1 8 (.nilFunc) := tyn_of (by kernel_rfl)
instance : TyD Try.prog 72 (.map 34 4) := ⟨Try.underlying72⟩
instance : TyA Try.prog 72 false := ⟨_, Try.underlying72, rfl⟩
instance : TyN Try.prog 72 1 8 (.map none) := tyn_of (by kernel_rfl)
instance : TyA Try.prog 73 false := ⟨_, Try.underlying73, rfl⟩
instance : TyN Try.prog 73 1 8 (.nilFunc) := tyn_of (by kernel_rfl)
instance : TyA Try.prog 74 false := ⟨_, Try.underlying74, rfl⟩
instance : TyN Try.prog 74 1 8 (.nilFunc) := tyn_of (by kernel_rfl)
instance : TyA Try.prog 75 false := ⟨_, Try.underlying75, rfl⟩
instance : TyN Try.prog 75 1 8 (.nilFunc) := tyn_of (by kernel_rfl)
instance : TyA Try.prog 76 false := ⟨_, Try.underlying76, rfl⟩
instance : TyN Try.prog 76 1 8 (.nilFunc) := tyn_of (by kernel_rfl)
instance : TyA Try.prog 77 false := ⟨_, Try.underlying77, rfl⟩
instance : TyN Try.prog 77 1 8 (.nilFunc) := tyn_of (by kernel_rfl)
instance : TyA Try.prog 78 false := ⟨_, Try.underlying78, rfl⟩
instance : TyN Try.prog 78 1 8 (.nilFunc) := tyn_of (by kernel_rfl)
instance : TyA Try.prog 79 false := ⟨_, Try.underlying79, rfl⟩
instance : TyN Try.prog 79 1 8 (.nilFunc) := tyn_of (by kernel_rfl)
instance : TyA Try.prog 80 false := ⟨_, Try.underlying80, rfl⟩
instance : TyN Try.prog 80 1 8 (.nilFunc) := tyn_of (by kernel_rfl)
instance : TyD Try.prog 81 (.slice 25) := ⟨Try.underlying81⟩
instance : TyA Try.prog 81 false := ⟨_, Try.underlying81, rfl⟩
instance : TyN Try.prog 81 1 24 (.slice none 0 0) := tyn_of (by kernel_rfl)
instance : TyA Try.prog 83 false := ⟨_, Try.underlying83, rfl⟩
instance : TyN Try.prog 83 1 8 (.nilFunc) := tyn_of (by kernel_rfl)
instance : TyA Try.prog 84 false := ⟨_, Try.underlying84, rfl⟩
instance : TyN Try.prog 84 1 8 (.nilFunc) := tyn_of (by kernel_rfl)
instance : TyD Try.prog 85 (.slice 22) := ⟨Try.underlying85⟩
instance : TyA Try.prog 85 false := ⟨_, Try.underlying85, rfl⟩
instance : TyN Try.prog 85 1 24 (.slice none 0 0) := tyn_of (by kernel_rfl)
instance : TyA Try.prog 86 false := ⟨_, Try.underlying86, rfl⟩
instance : TyN Try.prog 86 1 8 (.nilFunc) := tyn_of (by kernel_rfl)
instance : TyA Try.prog 87 false := ⟨_, Try.underlying87, rfl⟩
instance : TyN Try.prog 87 1 8 (.nilFunc) := tyn_of (by kernel_rfl)
instance : TyA Try.prog 88 false := ⟨_, Try.underlying88, rfl⟩
instance : TyN Try.prog 88 1 8 (.nilFunc) := tyn_of (by kernel_rfl)
instance : TyA Try.prog 89 false := ⟨_, Try.underlying89, rfl⟩
instance : TyN Try.prog 89 1 8 (.nilFunc) := tyn_of (by kernel_rfl)
instance : TyA Try.prog 90 false := ⟨_, Try.underlying90, rfl⟩
instance : TyN Try.prog 90 1 8 (.nilFunc) := tyn_of (by kernel_rfl)
instance : TyA Try.prog 91 false := ⟨_, Try.underlying91, rfl⟩
instance : TyN Try.prog 91 1 8 (.nilFunc) := tyn_of (by kernel_rfl)
instance : TyA Try.prog 92 false := ⟨_, Try.underlying92, rfl⟩
instance : TyN Try.prog 92 1 8 (.nilFunc) := tyn_of (by kernel_rfl)
instance : TyA Try.prog 93 false := ⟨_, Try.underlying93, rfl⟩
instance : TyN Try.prog 93 1 8 (.nilFunc) := tyn_of (by kernel_rfl)
instance : TyD Try.prog 94 (.int .u64) := ⟨Try.underlying94⟩
instance : TyA Try.prog 94 false := ⟨_, Try.underlying94, rfl⟩
instance : TyN Try.prog 94 1 8 (.int .u64 0) := tyn_of (by kernel_rfl)
instance : TyA Try.prog 95 false := ⟨_, Try.underlying95, rfl⟩
instance : TyN Try.prog 95 1 8 (.nilFunc) := tyn_of (by kernel_rfl)
instance : TyA Try.prog 96 false := ⟨_, Try.underlying96, rfl⟩
instance : TyN Try.prog 96 1 8 (.nilFunc) := tyn_of (by kernel_rfl)
instance : TyA Try.prog 97 false := ⟨_, Try.underlying97, rfl⟩
instance : TyN Try.prog 97 1 8 (.nilFunc) := tyn_of (by kernel_rfl)
instance : TyA Try.prog 98 false := ⟨_, Try.underlying98, rfl⟩
instance : TyN Try.prog 98 1 8 (.nilFunc) := tyn_of (by kernel_rfl)
instance : TyA Try.prog 99 false := ⟨_, Try.underlying99, rfl⟩
instance : TyN Try.prog 99 1 8 (.nilFunc) := tyn_of (by kernel_rfl)
instance : TyA Try.prog 100 false := ⟨_, Try.underlying100, rfl⟩
instance : TyN Try.prog 100 1 8 (.nilFunc) := tyn_of (by kernel_rfl)
instance : TyA Try.prog 101 false := ⟨_, Try.underlying101, rfl⟩
instance : TyN Try.prog 101 1 8 (.nilFunc) := tyn_of (by kernel_rfl)
instance : TyA Try.prog 102 false := ⟨_, Try.underlying102, rfl⟩
instance : TyN Try.prog 102 1 8 (.nilFunc) := tyn_of (by kernel_rfl)
instance : TyD Try.prog 103 (.int .i64) := ⟨Try.underlying103⟩
instance : TyA Try.prog 103 false := ⟨_, Try.underlying103, rfl⟩
instance : TyN Try.prog 103 1 8 (.int .i64 0) := tyn_of (by kernel_rfl)
instance : TyA Try.prog 105 false := ⟨_, Try.underlying105, rfl⟩
instance : TyN Try.prog 105 1 8 (.nilFunc) := tyn_of (by kernel_rfl)
instance : TyA Try.prog 106 false := ⟨_, Try.underlying106, rfl⟩
instance : TyN Try.prog 106 1 8 (.nilFunc) := tyn_of (by kernel_rfl)
instance : TyA Try.prog 107 false := ⟨_, Try.underlying107, rfl⟩
instance : TyN Try.prog 107 1 8 (.nilFunc) := tyn_of (by kernel_rfl)
instance : TyA Try.prog 108 false := ⟨_, Try.underlying108, rfl⟩
instance : TyN Try.prog 108 1 8 (.nilFunc) := tyn_of (by kernel_rfl)
instance : TyA Try.prog 109 false := ⟨_, Try.underlying109, rfl⟩
instance : TyN Try.prog 109 1 8 (.nilFunc) := tyn_of (by kernel_rfl)
instance : TyA Try.prog 110 false := ⟨_, Try.underlying110, rfl⟩
instance : TyN Try.prog 110 1 8 (.nilFunc) := tyn_of (by kernel_rfl)
instance : TyD Try.prog 111 (.int .u64) := ⟨Try.underlying111⟩
instance : TyA Try.prog 111 false := ⟨_, Try.underlying111, rfl⟩
instance : TyN Try.prog 111 1 8 (.int .u64 0) := tyn_of (by kernel_rfl)
instance : TyA Try.prog 112 false := ⟨_, Try.underlying112, rfl⟩
instance : TyN Try.prog 112 1 8 (.nilFunc) := tyn_of (by kernel_rfl)
instance : TyD Try.prog 113 (.int .u64) := ⟨Try.underlying113⟩
instance : TyA Try.prog 113 false := ⟨_, Try.underlying113, rfl⟩
instance : TyN Try.prog 113 1 8 (.int .u64 0) := tyn_of (by kernel_rfl)
instance : TyA Try.prog 114 false := ⟨_, Try.underlying114, rfl⟩
instance : TyN Try.prog 114 1 8 (.nilFunc) := tyn_of (by kernel_rfl)
instance : TyA Try.prog 115 false := ⟨_, Try.underlying115, rfl⟩
instance : TyN Try.prog 115 1 8 (.nilFunc) := tyn_of (by kernel_rfl)
instance : TyA Try.prog 116 false := ⟨_, Try.underlying116, rfl⟩
instance : TyN Try.prog 116 1 8 (.nilFunc) := tyn_of (by kernel_rfl)
instance : TyD Try.prog 117 (.pointer 3) := ⟨Try.underlying117⟩
instance : TyA Try.prog 117 false := ⟨_, Try.underlying117, rfl⟩
instance : TyN Try.prog 117 1 8 (.pointer none) := tyn_of (by kernel_rfl)
instance : TyA Try.prog 118 false := ⟨_, Try.underlying118, rfl⟩
instance : TyN Try.prog 118 1 8 (.nilFunc) := tyn_of (by kernel_rfl)
instance : TyD Try.prog 119 (.pointer 113) := ⟨Try.underlying119⟩
instance : TyA Try.prog 119 false := ⟨_, Try.underlying119, rfl⟩
instance : TyN Try.prog 119 1 8 (.pointer none) := tyn_of (by kernel_rfl)
instance : TyA Try.prog 121 false := ⟨_, Try.underlying121, rfl⟩
instance : TyN Try.prog 121 1 8 (.nilFunc) := tyn_of (by kernel_rfl)
instance : TyA Try.prog 122 false := ⟨_, Try.underlying122, rfl⟩
instance : TyN Try.prog 122 1 8 (.nilFunc) := tyn_of (by kernel_rfl)
instance : TyA Try.prog 128 false := ⟨_, Try.underlying128, rfl⟩
instance : TyN Try.prog 128 1 8 (.nilFunc) := tyn_of (by kernel_rfl)
instance : TyA Try.prog 131 false := ⟨_, Try.underlying131, rfl⟩
instance : TyN Try.prog 131 1 8 (.nilFunc) := tyn_of (by kernel_rfl)
instance : TyD Try.prog 132 (.pointer 5) := ⟨Try.underlying132⟩
instance : TyA Try.prog 132 false := ⟨_, Try.underlying132, rfl⟩
instance : TyN Try.prog 132 1 8 (.pointer none) := tyn_of (by kernel_rfl)
instance : FnB Try.prog 2 := ⟨_, Try.func2, by decide +kernel, rfl⟩
instance : FnB Try.prog 3 := ⟨_, Try.func3, by decide +kernel, rfl⟩
instance : FnB Try.prog 4 := ⟨_, Try.func4, by decide +kernel, rfl⟩
instance : FnB Try.prog 5 := ⟨_, Try.func5, by decide +kernel, rfl⟩
instance : FnB Try.prog 6 := ⟨_, Try.func6, by decide +kernel, rfl⟩
instance : FnB Try.prog 7 := ⟨_, Try.func7, by decide +kernel, rfl⟩
instance : FnB Try.prog 8 := ⟨_, Try.func8, by decide +kernel, rfl⟩
instance : FnB Try.prog 9 := ⟨_, Try.func9, by decide +kernel, rfl⟩
instance : FnB Try.prog 10 := ⟨_, Try.func10, by decide +kernel, rfl⟩
instance : FnB Try.prog 11 := ⟨_, Try.func11, by decide +kernel, rfl⟩
instance : FnB Try.prog 12 := ⟨_, Try.func12, by decide +kernel, rfl⟩
instance : FnB Try.prog 13 := ⟨_, Try.func13, by decide +kernel, rfl⟩
instance : FnB Try.prog 14 := ⟨_, Try.func14, by decide +kernel, rfl⟩
instance : FnB Try.prog 15 := ⟨_, Try.func15, by decide +kernel, rfl⟩
instance : FnB Try.prog 16 := ⟨_, Try.func16, by decide +kernel, rfl⟩
instance : FnB Try.prog 17 := ⟨_, Try.func17, by decide +kernel, rfl⟩
instance : FnB Try.prog 18 := ⟨_, Try.func18, by decide +kernel, rfl⟩
instance : FnB Try.prog 19 := ⟨_, Try.func19, by decide +kernel, rfl⟩
instance : FnB Try.prog 20 := ⟨_, Try.func20, by decide +kernel, rfl⟩
instance : FnB Try.prog 21 := ⟨_, Try.func21, by decide +kernel, rfl⟩
instance : FnB Try.prog 22 := ⟨_, Try.func22, by decide +kernel, rfl⟩
instance : FnB Try.prog 23 := ⟨_, Try.func23, by decide +kernel, rfl⟩
instance : FnB Try.prog 24 := ⟨_, Try.func24, by decide +kernel, rfl⟩
instance : FnB Try.prog 25 := ⟨_, Try.func25, by decide +kernel, rfl⟩
instance : FnB Try.prog 26 := ⟨_, Try.func26, by decide +kernel, rfl⟩
instance : FnB Try.prog 27 := ⟨_, Try.func27, by decide +kernel, rfl⟩
instance : FnB Try.prog 28 := ⟨_, Try.func28, by decide +kernel, rfl⟩
instance : FnB Try.prog 29 := ⟨_, Try.func29, by decide +kernel, rfl⟩
instance : FnB Try.prog 30 := ⟨_, Try.func30, by decide +kernel, rfl⟩
instance : FnB Try.prog 31 := ⟨_, Try.func31, by decide +kernel, rfl⟩
instance : FnB Try.prog 32 := ⟨_, Try.func32, by decide +kernel, rfl⟩
instance : FnB Try.prog 33 := ⟨_, Try.func33, by decide +kernel, rfl⟩
instance : FnB Try.prog 34 := ⟨_, Try.func34, by decide +kernel, rfl⟩
instance : FnB Try.prog 35 := ⟨_, Try.func35, by decide +kernel, rfl⟩
instance : FnB Try.prog 36 := ⟨_, Try.func36, by decide +kernel, rfl⟩
instance : FnB Try.prog 37 := ⟨_, Try.func37, by decide +kernel, rfl⟩
instance : FnB Try.prog 38 := ⟨_, Try.func38, by decide +kernel, rfl⟩
instance : FnB Try.prog 39 := ⟨_, Try.func39, by decide +kernel, rfl⟩
instance : FnB Try.prog 40 := ⟨_, Try.func40, by decide +kernel, rfl⟩
instance : FnB Try.prog 41 := ⟨_, Try.func41, by decide +kernel, rfl⟩
instance : FnB Try.prog 42 := ⟨_, Try.func42, by decide +kernel, rfl⟩
instance : FnB Try.prog 43 := ⟨_, Try.func43, by decide +kernel, rfl⟩
instance : FnB Try.prog 44 := ⟨_, Try.func44, by decide +kernel, rfl⟩
instance : FnB Try.prog 45 := ⟨_, Try.func45, by decide +kernel, rfl⟩
instance : FnB Try.prog 46 := ⟨_, Try.func46, by decide +kernel, rfl⟩
instance : FnB Try.prog 47 := ⟨_, Try.func47, by decide +kernel, rfl⟩
instance : FnB Try.prog 48 := ⟨_, Try.func48, by decide +kernel, rfl⟩
instance : FnB Try.prog 49 := ⟨_, Try.func49, by decide +kernel, rfl⟩
instance : FnB Try.prog 50 := ⟨_, Try.func50, by decide +kernel, rfl⟩
instance : FnB Try.prog 51 := ⟨_, Try.func51, by decide +kernel, rfl⟩
instance : FnB Try.prog 52 := ⟨_, Try.func52, by decide +kernel, rfl⟩
instance : FnB Try.prog 53 := ⟨_, Try.func53, by decide +kernel, rfl⟩
instance : FnB Try.prog 54 := ⟨_, Try.func54, by decide +kernel, rfl⟩
instance : FnB Try.prog 55 := ⟨_, Try.func55, by decide +kernel, rfl⟩
instance : FnB Try.prog 56 := ⟨_, Try.func56, by decide +kernel, rfl⟩
instance : FnB Try.prog 57 := ⟨_, Try.func57, by decide +kernel, rfl⟩
instance : FnB Try.prog 58 := ⟨_, Try.func58, by decide +kernel, rfl⟩
instance : FnB Try.prog 59 := ⟨_, Try.func59, by decide +kernel, rfl⟩
instance : FnB Try.prog 60 := ⟨_, Try.func60, by decide +kernel, rfl⟩
instance : FnB Try.prog 61 := ⟨_, Try.func61, by decide +kernel, rfl⟩
instance : FnB Try.prog 62 := ⟨_, Try.func62, by decide +kernel, rfl⟩
instance : FnB Try.prog 63 := ⟨_, Try.func63, by decide +kernel, rfl⟩
instance : FnB Try.prog 64 := ⟨_, Try.func64, by decide +kernel, rfl⟩
instance : FnB Try.prog 65 := ⟨_, Try.func65, by decide +kernel, rfl⟩
instance : FnB Try.prog 66 := ⟨_, Try.func66, by decide +kernel, rfl⟩
instance : FnB Try.prog 67 := ⟨_, Try.func67, by decide +kernel, rfl⟩
instance : FnB Try.prog 68 := ⟨_, Try.func68, by decide +kernel, rfl⟩
instance : FnB Try.prog 69 := ⟨_, Try.func69, by decide +kernel, rfl⟩
instance : FnB Try.prog 70 := ⟨_, Try.func70, by decide +kernel, rfl⟩
instance : FnB Try.prog 71 := ⟨_, Try.func71, by decide +kernel, rfl⟩
instance : FnB Try.prog 72 := ⟨_, Try.func72, by decide +kernel, rfl⟩
instance : FnB Try.prog 73 := ⟨_, Try.func73, by decide +kernel, rfl⟩
instance : FnB Try.prog 75 := ⟨_, Try.func75, by decide +kernel, rfl⟩
instance : FnB Try.prog 76 := ⟨_, Try.func76, by decide +kernel, rfl⟩
instance : FnB Try.prog 77 := ⟨_, Try.func77, by decide +kernel, rfl⟩
instance : FnB Try.prog 78 := ⟨_, Try.func78, by decide +kernel, rfl⟩
instance : FnB Try.prog 79 := ⟨_, Try.func79, by decide +kernel, rfl⟩
instance : FnB Try.prog 80 := ⟨_, Try.func80, by decide +kernel, rfl⟩
instance : FnB Try.prog 81 := ⟨_, Try.func81, by decide +kernel, rfl⟩
instance : FnB Try.prog 82 := ⟨_, Try.func82, by decide +kernel, rfl⟩
instance : FnB Try.prog 83 := ⟨_, Try.func83, by decide +kernel, rfl⟩
instance : FnB Try.prog 84 := ⟨_, Try.func84, by decide +kernel, rfl⟩
instance : FnB Try.prog 85 := ⟨_, Try.func85, by decide +kernel, rfl⟩
instance : FnB Try.prog 86 := ⟨_, Try.func86, by decide +kernel, rfl⟩
instance : FnB Try.prog 87 := ⟨_, Try.func87, by decide +kernel, rfl⟩
instance : FnB Try.prog 88 := ⟨_, Try.func88, by decide +kernel, rfl⟩
instance : FnB Try.prog 89 := ⟨_, Try.func89, by decide +kernel, rfl⟩
instance : FnB Try.prog 90 := ⟨_, Try.func90, by decide +kernel, rfl⟩
instance : FnB Try.prog 91 := ⟨_, Try.func91, by decide +kernel, rfl⟩
instance : FnB Try.prog 92 := ⟨_, Try.func92, by decide +kernel, rfl⟩
instance : FnB Try.prog 93 := ⟨_, Try.func93, by decide +kernel, rfl⟩
instance : FnB Try.prog 94 := ⟨_, Try.func94, by decide +kernel, rfl⟩
instance : FnB Try.prog 95 := ⟨_, Try.func95, by decide +kernel, rfl⟩
instance : FnB Try.prog 96 := ⟨_, Try.func96, by decide +kernel, rfl⟩
instance : FnB Try.prog 97 := ⟨_, Try.func97, by decide +kernel, rfl⟩
instance : FnB Try.prog 98 := ⟨_, Try.func98, by decide +kernel, rfl⟩
instance : FnB Try.prog 99 := ⟨_, Try.func99, by decide +kernel, rfl⟩
instance : FnB Try.prog 100 := ⟨_, Try.func100, by decide +kernel, rfl⟩
instance : FnB Try.prog 101 := ⟨_, Try.func101, by decide +kernel, rfl⟩
instance : FnOv Try.prog 74 22 := ⟨_, 4, Try.func74, by decide +kernel, rfl, by kernel_rfl, by kernel_rfl⟩
end Go.Proofs.Ytinddhlmgiahiaa
/- Plain facts on 32-bit prefixes. No program in sight. -/
namespace Go.Pl

def clampN (n : Int) : Nat := (min (max n 0) 32).toNat
theorem clampN_le (n : Int) : clampN n ≤ 32 := by unfold clampN; omega
theorem clampN_int (n : Int) : min (max n 0) 32 = (clampN n : Int) := by unfold clampN; omega
def keepN (x c : Nat) : Nat := x / 2 ^ (32 - c) * 2 ^ (32 - c)

theorem land_high (x k : Nat) (hk : k ≤ 32) (hx : x < 2 ^ 32) : x &&& (2 ^ 32 - 2 ^ k) = x / 2 ^ k * 2 ^ k := by
  apply Nat.eq_of_testBit_eq
  intro i
  have e : 2 ^ 32 - 2 ^ k = (2 ^ (32 - k) - 1) <<< k := by
    rw [Nat.shiftLeft_eq, Nat.sub_mul, ← Nat.pow_add, Nat.one_mul, Nat.sub_add_cancel hk]
  rw [Nat.testBit_and, e, Nat.testBit_shiftLeft, Nat.testBit_two_pow_sub_one, ← Nat.shiftRight_eq_div_pow, ← Nat.shiftLeft_eq, Nat.testBit_shiftLeft, Nat.testBit_shiftRight]
  by_cases h : k ≤ i
  · by_cases h2 : i < 32
    · have : i - k < 32 - k := by omega
      simp [h, this, show k + (i - k) = i by omega]
    · have hb : x.testBit i = false := Nat.testBit_lt_two_pow (Nat.lt_of_lt_of_le hx (Nat.pow_le_pow_right (by omega) (by omega)))
      simp [h, hb, show k + (i - k) = i by omega]
  · simp [h]
theorem keepN_le (x c : Nat) : keepN x c ≤ x := Nat.div_mul_le_self _ _
theorem lor_low (q k r : Nat) (hr : r < 2 ^ k) : (q * 2 ^ k) ||| r = q * 2 ^ k + r := by
  rw [← Nat.shiftLeft_eq]; exact (Nat.shiftLeft_add_eq_or_of_lt hr q).symm
theorem mask_wrap (k : Nat) (hk : k ≤ 32) : (4294967295 * 2 ^ k) % 4294967296 = 4294967296 - 2 ^ k := by
  have h1 : 2 ^ k ≤ 2 ^ 32 := Nat.pow_le_pow_right (by omega) hk
  have h2 : 0 < 2 ^ k := Nat.two_pow_pos k
  have e : 4294967295 * 2 ^ k = (2 ^ k - 1) * 4294967296 + (4294967296 - 2 ^ k) := by
    have : (2 ^ k - 1) * 4294967296 = 2 ^ k * 4294967296 - 4294967296 := by rw [Nat.sub_mul, Nat.one_mul]
    omega
  rw [e, Nat.mul_comm, Nat.mul_add_mod]
  exact Nat.mod_eq_of_lt (by omega)
end Go.Pl
namespace Go.Pl
theorem keep_succ (x i : Nat) (h : i < 32) : keepN x i ||| (x / 2 ^ (31 - i) % 2 * 2 ^ (31 - i)) = keepN x (i + 1) := by
  unfold keepN
  have e1 : 32 - (i + 1) = 31 - i := by omega
  have e2 : 32 - i = (31 - i) + 1 := by omega
  rw [e1, e2]
  generalize 31 - i = k
  have hlt : x / 2 ^ k % 2 * 2 ^ k < 2 ^ (k + 1) := by
    rw [Nat.pow_succ, Nat.mul_comm (2 ^ k) 2]
    exact Nat.mul_lt_mul_of_pos_right (Nat.mod_lt _ (by omega)) (Nat.two_pow_pos k)
  rw [lor_low _ _ _ hlt]
  have e3 : x / 2 ^ (k + 1) = x / 2 ^ k / 2 := by rw [Nat.pow_succ, Nat.div_div_eq_div_mul]
  rw [e3, Nat.pow_succ]
  generalize x / 2 ^ k = q
  have := Nat.div_add_mod q 2
  have e4 : q / 2 * (2 ^ k * 2) = (2 * (q / 2)) * 2 ^ k := by rw [Nat.mul_comm (2 ^ k) 2, ← Nat.mul_assoc, Nat.mul_comm (q / 2) 2]
  rw [e4, ← Nat.add_mul, this]
theorem keep_zero (x : Nat) (hx : x < 2 ^ 32) : keepN x 0 = 0 := by
  unfold keepN; rw [Nat.sub_zero, Nat.div_eq_of_lt hx, Nat.zero_mul]
end Go.Pl
/- Prefixes and what the functions on one prefix compute. No program in sight. -/
namespace Go.Pl
open Go.RT
structure Pfx where
  addr : Nat
  len : Int
  deriving DecidableEq
def Pfx.ok (p : Pfx) : Prop := p.addr < 2 ^ 32 ∧ inr .i64 p.len
def encP (p : Pfx) : List FV := [If .u32 p.addr, If .i64 p.len]
abbrev VP (l : List Pfx) : FV := .vals 2 (l.map encP)
def validB (p : Pfx) : Bool := decide (0 ≤ p.len) && decide (p.len ≤ 32) && decide ((keepN p.addr (clampN p.len) : Int) = p.addr)
theorem eqFs_encP (p q : Pfx) : eqFs (encP p) (encP q) = decide (p = q) := by
  obtain ⟨a, b⟩ := p; obtain ⟨c, d⟩ := q
  simp [eqFs, encP, If]
  by_cases h1 : a = c <;> by_cases h2 : b = d <;> simp [h1, h2] <;> omega
/-- the number of host bits -/
def hob (p : Pfx) : Nat := 32 - clampN p.len
def sz (p : Pfx) : Nat := 2 ^ hob p
end Go.Pl
/- Graphs, their edges, and what the functions on them compute. No program in sight. -/
namespace Go.Pl
open Go.RT
set_option linter.all false
def cmpI (a b : Int) : Int := if a < b then -1 else if a > b then 1 else 0
instance (k : IntKind) (n : Int) : Decidable (inr k n) := by cases k <;> unfold inr <;> infer_instance
structure Edg where
  f : Int
  t : Int
  c : Int
  deriving DecidableEq
structure Gr where
  r : Int
  n : Int
  es : List Edg
  deriving DecidableEq
def encN (x : Int) : List FV := [If .i64 x]
abbrev VI (l : List Int) : FV := .vals 1 (l.map encN)
theorem row_at' {α : Type} (f : α → List FV) (l : List α) (i : Nat) (h : i < l.length) : (l.map f)[i]? = some (f l[i]) := by simp [h]
theorem take_len_eq' {α : Type} {l : List α} {i : Nat} (h : i = l.length) : l.take i = l := by subst h; exact List.take_length
end Go.Pl
/- Routes of a table and what the functions on them compute. No program in sight. -/
namespace Go.Pl
open Go Go.RT
set_option linter.all false
structure Hop where
  ad : Int
  ifc : Int
  ro : Int
  we : Int
  via : Pfx
  deriving DecidableEq
structure Rte where
  pf : Pfx
  pr : Int
  di : Int
  me : Int
  tg : Int
  hs : List Hop
  deriving DecidableEq
def encHo (h : Hop) : List FV := [If .u32 h.ad, If .i64 h.ifc, If .u32 h.ro, If .i64 h.we, If .u32 h.via.addr, If .i64 h.via.len]
abbrev VHo (l : List Hop) : FV := .vals 6 (l.map encHo)
def encRt (r : Rte) : List FV := [If .u32 r.pf.addr, If .i64 r.pf.len, If .i64 r.pr, If .i64 r.di, If .i64 r.me, If .i64 r.tg, VHo r.hs]
abbrev VRt (l : List Rte) : FV := .vals 7 (l.map encRt)
def okHo (h : Hop) : Prop := inr .u32 h.ad ∧ inr .i64 h.ifc ∧ inr .u32 h.ro ∧ inr .i64 h.we ∧ h.via.ok
def okRt (r : Rte) : Prop := r.pf.ok ∧ inr .i64 r.pr ∧ inr .i64 r.di ∧ inr .i64 r.me ∧ inr .i64 r.tg ∧ ∀ h ∈ r.hs, okHo h
def outB (n lo hi : Int) : Bool := decide (n < lo) || decide (hi < n)
/-- the first that is not 0 -/
def fst3 (a b c : Int) : Int := if a ≠ 0 then a else if b ≠ 0 then b else c
def cmpP (p q : Pfx) : Int := if (decide (p.addr < q.addr) || decide (p.addr = q.addr) && decide (p.len < q.len)) = true then -1 else if p = q then 0 else 1
def cmpHo (a b : Hop) : Int := fst3 (cmpI a.ad b.ad) (cmpI a.ifc b.ifc) (cmpI a.ro b.ro)
def cmpRt (a b : Rte) : Int := fst3 (cmpP a.pf b.pf) (cmpI a.di b.di) (cmpI a.pr b.pr)
def badHo : Option Hop → Hop → Bool
  | none, _ => false
  | some q, h => decide (0 ≤ cmpHo q h)
def hopE (h : Hop) : Int := if (outB h.ifc (-1) 15 || outB h.we 1 255) = true then 5 else if (!validB h.via) = true then 1 else 0
def hopsGo : Option Hop → List Hop → Int
  | _, [] => 0
  | p, h :: t => if hopE h ≠ 0 then hopE h else if badHo p h = true then 16 else hopsGo (some h) t
def checkRt (r : Rte) : Int :=
  if (!validB r.pf) = true then 1 else
  if outB r.pr 1 7 = true then 15 else
  if (outB r.di 0 255 || outB r.me 0 16777216 || outB r.tg 0 4294967295) = true then 5 else
  if 64 < r.hs.length then 4 else hopsGo none r.hs
def hasB (l : List Rte) (p : Pfx) (n : Int) : Bool := l.any fun x => decide (x.pf = p) && decide (x.pr = n)
def badRt : Option Rte → Rte → Bool
  | none, _ => false
  | some q, x => decide (0 ≤ cmpRt q x)
def chkGo (l : List Rte) : List Rte → List Rte → Int
  | _, [] => 0
  | s, x :: t => if checkRt x ≠ 0 then checkRt x else if hasB s x.pf x.pr = true then 7 else if badRt s.getLast? x = true then 16 else chkGo l (s ++ [x]) t
def checkL (l : List Rte) : Int := if 2000 < l.length then 4 else chkGo l [] l
def distF (ds : List Int) (p : Int) : Int :=
  if 1 ≤ p ∧ p ≤ ds.length then ds.getD (p.toNat - 1) 0 else
  if p = 1 then 0 else if p = 2 then 1 else if p = 3 ∨ p = 4 ∨ p = 5 then 110 else if p = 6 then 20 else if p = 7 then 200 else 255
def befR (r x : Rte) : Bool := decide (cmpRt x r < 0)
def insRt (r : Rte) (l : List Rte) : List Rte := l.takeWhile (befR r) ++ r :: l.dropWhile (befR r)
def putRt (l : List Rte) (r : Rte) : List Rte × Int :=
  if checkL l ≠ 0 then ([], checkL l) else if checkRt r ≠ 0 then ([], checkRt r) else
  if 2000 ≤ (l.filter fun x => !(decide (x.pf = r.pf) && decide (x.pr = r.pr))).length then ([], 4)
  else (insRt r (l.filter fun x => !(decide (x.pf = r.pf) && decide (x.pr = r.pr))), 0)
def replGo (n : Int) : List Rte → List Rte → Int
  | _, [] => 0
  | s, x :: t => if checkRt x ≠ 0 then checkRt x else if x.pr ≠ n then 14 else if (s.any fun y => decide (y.pf = x.pf)) = true then 7 else replGo n (s ++ [x]) t
def replF (l : List Rte) (n : Int) (rs : List Rte) : List Rte × Int :=
  if checkL l ≠ 0 then ([], checkL l) else if outB n 1 7 = true then ([], 15) else if replGo n [] rs ≠ 0 then ([], replGo n [] rs) else
  if 2000 < (l.filter fun x => !decide (x.pr = n)).length + rs.length then ([], 4)
  else (rs.foldl (fun o r => insRt r o) (l.filter fun x => !decide (x.pr = n)), 0)
def actGo : Option Pfx → List Rte → List Rte
  | _, [] => []
  | p, x :: t => (if p = some x.pf then [] else [x]) ++ actGo (some x.pf) t
def activeF (l : List Rte) : List Rte := if checkL l ≠ 0 then [] else actGo none l
/-- a list of active routes, or nothing -/
def listF (l : List Rte) : List Rte := if (activeF l).length < l.length then [] else l
def findR (l : List Rte) (p : Pfx) : Option Rte := l.find? fun x => decide (x.pf = p)
def chgP (a b : List Rte) (p : Pfx) : Bool := decide (findR a p ≠ findR b p)
theorem eqFs_encHo (a b : Hop) : eqFs (encHo a) (encHo b) = decide (a = b) := by
  obtain ⟨a1, a2, a3, a4, ⟨a5, a6⟩⟩ := a; obtain ⟨b1, b2, b3, b4, ⟨b5, b6⟩⟩ := b
  simp only [encHo, eqFs, Hop.mk.injEq, Pfx.mk.injEq]
  rw [Bool.eq_iff_iff]
  simp [If, and_assoc]
  omega
end Go.Pl
namespace Go.Proofs.Ytinddhlmgiahiaa
open Go Go.RT Go.Proofs Go.Pl
set_option linter.all false
set_option maxRecDepth 20000
theorem nan_c (a : Int) : Pure Try.prog 71 [If .i64 a] (Bf false) := by
  rw [show (false) = decide (a ≠ a) by simp]
  refine Meets.intro Try.func71 rfl (Nat.le_of_ble_eq_true rfl) fun C hC => ?_
  simp only [List.map, argEnv, Nat.reduceAdd]
  refine nK ?_
  refine s_reg rfl ?_
  refine Run.pure (dd := some 2) rfl rfl (op_assign rfl (Opd.const _)) ?_
  refine Run.nil (FinR.mk ?_)
  refine nK ?_
  refine s_reg rfl ?_
  refine Run.pure (dd := some 3) rfl rfl (op_move rfl (Opd.tmp _ _ rfl)) ?_
  refine Run.pure (dd := some 4) rfl rfl (op_move rfl (Opd.tmp _ _ rfl)) ?_
  refine Run.pure (dd := some 5) rfl rfl (op_neq rfl (Opd.tmp _ _ rfl) (Opd.tmp _ _ rfl)) ?_
  refine Run.pure (dd := some 2) rfl rfl (op_assign rfl (Opd.tmp _ _ rfl)) ?_
  refine Run.nil (FinR.mk ?_)
  refine nK ?_
  (first | exact s_o1 hC rfl tV | exact s_o2 hC rfl tV tV | exact s_o3 hC rfl tV tV tV | exact s_o4 hC rfl tV tV tV tV | exact s_out0 hC rfl | exact s_outO hC rfl rfl rfl)
theorem cmp_c (a b : Int) : Pure Try.prog 56 [If .i64 a, If .i64 b] (If .i64 (cmpI a b)) := by
  refine Meets.intro Try.func56 rfl (Nat.le_of_ble_eq_true rfl) fun C hC => ?_
  simp only [List.map, argEnv, Nat.reduceAdd]
  refine nK ?_
  refine s_reg rfl ?_
  refine Run.pure (dd := some 4) rfl rfl (op_assign rfl (Opd.const _)) ?_
  refine Run.nil (FinR.mk ?_)
  refine nK ?_
  refine s_reg rfl ?_
  refine Run.pure (dd := some 7) rfl rfl (op_move rfl (Opd.tmp _ _ rfl)) ?_
  refine Run.pure (dd := some 8) rfl rfl (op_call_pure (fun _ => nan_c _) rfl (Opd.func _) (Opds.cons _ _ _ _ (Opd.tmp _ _ rfl) Opds.nil)) ?_
  refine Run.pure (dd := some 5) rfl rfl (op_assign rfl (Opd.tmp _ _ rfl)) ?_
  refine Run.nil (FinR.mk ?_)
  refine nK ?_
  refine s_reg rfl ?_
  refine Run.pure (dd := some 9) rfl rfl (op_move rfl (Opd.tmp _ _ rfl)) ?_
  refine Run.pure (dd := some 10) rfl rfl (op_call_pure (fun _ => nan_c _) rfl (Opd.func _) (Opds.cons _ _ _ _ (Opd.tmp _ _ rfl) Opds.nil)) ?_
  refine Run.pure (dd := some 6) rfl rfl (op_assign rfl (Opd.tmp _ _ rfl)) ?_
  refine Run.nil (FinR.mk ?_)
  refine nK ?_
  refine s_reg rfl ?_
  refine Run.pure (dd := some 11) rfl rfl (op_move rfl (Opd.tmp _ _ rfl)) ?_
  refine Run.nil (FinR.mk ?_)
  refine nK ?_
  refine n_cond _ rfl (fun hb => ?_) (fun hb => ?_)
  · cases hb
  · refine nK ?_
    refine s_reg rfl ?_
    refine Run.pure (dd := some 13) rfl rfl (op_move rfl (Opd.tmp _ _ rfl)) ?_
    refine Run.nil (FinR.mk ?_)
    refine nK ?_
    refine n_cond _ rfl (fun hb => ?_) (fun hb => ?_)
    · cases hb
    · unfold cmpI
      refine nK ?_
      refine s_reg rfl ?_
      refine Run.pure (dd := some 14) rfl rfl (op_move rfl (Opd.tmp _ _ rfl)) ?_
      refine Run.pure (dd := some 15) rfl rfl (op_move rfl (Opd.tmp _ _ rfl)) ?_
      refine Run.pure (dd := some 16) rfl rfl (op_lss rfl (Opd.tmp _ _ rfl) (Opd.tmp _ _ rfl)) ?_
      refine Run.nil (FinR.mk ?_)
      refine nK ?_
      refine n_cond _ rfl (fun hb => ?_) (fun hb => ?_)
      · rw [if_pos (by simpa using hb)]
        refine nK ?_
        refine s_reg rfl ?_
        refine Run.pure (dd := some 4) rfl rfl (op_assign rfl (Opd.const _)) ?_
        refine Run.nil (FinR.mk ?_)
        refine nK ?_
        (first | exact s_o1 hC rfl tV | exact s_o2 hC rfl tV tV | exact s_o3 hC rfl tV tV tV | exact s_o4 hC rfl tV tV tV tV | exact s_out0 hC rfl | exact s_outO hC rfl rfl rfl)
      · rw [if_neg (by simpa using hb)]
        refine nK ?_
        refine s_reg rfl ?_
        refine Run.pure (dd := some 17) rfl rfl (op_move rfl (Opd.tmp _ _ rfl)) ?_
        refine Run.pure (dd := some 18) rfl rfl (op_move rfl (Opd.tmp _ _ rfl)) ?_
        refine Run.pure (dd := some 19) rfl rfl (op_gtr rfl (Opd.tmp _ _ rfl) (Opd.tmp _ _ rfl)) ?_
        refine Run.nil (FinR.mk ?_)
        refine nK ?_
        refine n_cond _ rfl (fun hb => ?_) (fun hb => ?_)
        · rw [if_pos (by simpa using hb)]
          refine nK ?_
          refine s_reg rfl ?_
          refine Run.pure (dd := some 4) rfl rfl (op_assign rfl (Opd.const _)) ?_
          refine Run.nil (FinR.mk ?_)
          refine nK ?_
          (first | exact s_o1 hC rfl tV | exact s_o2 hC rfl tV tV | exact s_o3 hC rfl tV tV tV | exact s_o4 hC rfl tV tV tV tV | exact s_out0 hC rfl | exact s_outO hC rfl rfl rfl)
        · rw [if_neg (by simpa using hb)]
          refine nK ?_
          refine s_reg rfl ?_
          refine Run.pure (dd := some 4) rfl rfl (op_assign rfl (Opd.const _)) ?_
          refine Run.nil (FinR.mk ?_)
          refine nK ?_
          (first | exact s_o1 hC rfl tV | exact s_o2 hC rfl tV tV | exact s_o3 hC rfl tV tV tV | exact s_o4 hC rfl tV tV tV tV | exact s_out0 hC rfl | exact s_outO hC rfl rfl rfl)
theorem nanU_c (a : Int) : Pure Try.prog 80 [If .u32 a] (Bf false) := by
  rw [show (false) = decide (a ≠ a) by simp]
  refine Meets.intro Try.func80 rfl (Nat.le_of_ble_eq_true rfl) fun C hC => ?_
  simp only [List.map, argEnv, Nat.reduceAdd]
  refine nK ?_
  refine s_reg rfl ?_
  refine Run.pure (dd := some 2) rfl rfl (op_assign rfl (Opd.const _)) ?_
  refine Run.nil (FinR.mk ?_)
  refine nK ?_
  refine s_reg rfl ?_
  refine Run.pure (dd := some 3) rfl rfl (op_move rfl (Opd.tmp _ _ rfl)) ?_
  refine Run.pure (dd := some 4) rfl rfl (op_move rfl (Opd.tmp _ _ rfl)) ?_
  refine Run.pure (dd := some 5) rfl rfl (op_neq rfl (Opd.tmp _ _ rfl) (Opd.tmp _ _ rfl)) ?_
  refine Run.pure (dd := some 2) rfl rfl (op_assign rfl (Opd.tmp _ _ rfl)) ?_
  refine Run.nil (FinR.mk ?_)
  refine nK ?_
  (first | exact s_o1 hC rfl tV | exact s_o2 hC rfl tV tV | exact s_o3 hC rfl tV tV tV | exact s_o4 hC rfl tV tV tV tV | exact s_out0 hC rfl | exact s_outO hC rfl rfl rfl)
theorem cmpU_c (a b : Int) : Pure Try.prog 70 [If .u32 a, If .u32 b] (If .i64 (cmpI a b)) := by
  refine Meets.intro Try.func70 rfl (Nat.le_of_ble_eq_true rfl) fun C hC => ?_
  simp only [List.map, argEnv, Nat.reduceAdd]
  refine nK ?_
  refine s_reg rfl ?_
  refine Run.pure (dd := some 4) rfl rfl (op_assign rfl (Opd.const _)) ?_
  refine Run.nil (FinR.mk ?_)
  refine nK ?_
  refine s_reg rfl ?_
  refine Run.pure (dd := some 7) rfl rfl (op_move rfl (Opd.tmp _ _ rfl)) ?_
  refine Run.pure (dd := some 8) rfl rfl (op_call_pure (fun _ => nanU_c _) rfl (Opd.func _) (Opds.cons _ _ _ _ (Opd.tmp _ _ rfl) Opds.nil)) ?_
  refine Run.pure (dd := some 5) rfl rfl (op_assign rfl (Opd.tmp _ _ rfl)) ?_
  refine Run.nil (FinR.mk ?_)
  refine nK ?_
  refine s_reg rfl ?_
  refine Run.pure (dd := some 9) rfl rfl (op_move rfl (Opd.tmp _ _ rfl)) ?_
  refine Run.pure (dd := some 10) rfl rfl (op_call_pure (fun _ => nanU_c _) rfl (Opd.func _) (Opds.cons _ _ _ _ (Opd.tmp _ _ rfl) Opds.nil)) ?_
  refine Run.pure (dd := some 6) rfl rfl (op_assign rfl (Opd.tmp _ _ rfl)) ?_
  refine Run.nil (FinR.mk ?_)
  refine nK ?_
  refine s_reg rfl ?_
  refine Run.pure (dd := some 11) rfl rfl (op_move rfl (Opd.tmp _ _ rfl)) ?_
  refine Run.nil (FinR.mk ?_)
  refine nK ?_
  refine n_cond _ rfl (fun hb => ?_) (fun hb => ?_)
  · cases hb
  · refine nK ?_
    refine s_reg rfl ?_
    refine Run.pure (dd := some 13) rfl rfl (op_move rfl (Opd.tmp _ _ rfl)) ?_
    refine Run.nil (FinR.mk ?_)
    refine nK ?_
    refine n_cond _ rfl (fun hb => ?_) (fun hb => ?_)
    · cases hb
    · unfold cmpI
      refine nK ?_
      refine s_reg rfl ?_
      refine Run.pure (dd := some 14) rfl rfl (op_move rfl (Opd.tmp _ _ rfl)) ?_
      refine Run.pure (dd := some 15) rfl rfl (op_move rfl (Opd.tmp _ _ rfl)) ?_
      refine Run.pure (dd := some 16) rfl rfl (op_lss rfl (Opd.tmp _ _ rfl) (Opd.tmp _ _ rfl)) ?_
      refine Run.nil (FinR.mk ?_)
      refine nK ?_
      refine n_cond _ rfl (fun hb => ?_) (fun hb => ?_)
      · rw [if_pos (by simpa using hb)]
        refine nK ?_
        refine s_reg rfl ?_
        refine Run.pure (dd := some 4) rfl rfl (op_assign rfl (Opd.const _)) ?_
        refine Run.nil (FinR.mk ?_)
        refine nK ?_
        (first | exact s_o1 hC rfl tV | exact s_o2 hC rfl tV tV | exact s_o3 hC rfl tV tV tV | exact s_o4 hC rfl tV tV tV tV | exact s_out0 hC rfl | exact s_outO hC rfl rfl rfl)
      · rw [if_neg (by simpa using hb)]
        refine nK ?_
        refine s_reg rfl ?_
        refine Run.pure (dd := some 17) rfl rfl (op_move rfl (Opd.tmp _ _ rfl)) ?_
        refine Run.pure (dd := some 18) rfl rfl (op_move rfl (Opd.tmp _ _ rfl)) ?_
        refine Run.pure (dd := some 19) rfl rfl (op_gtr rfl (Opd.tmp _ _ rfl) (Opd.tmp _ _ rfl)) ?_
        refine Run.nil (FinR.mk ?_)
        refine nK ?_
        refine n_cond _ rfl (fun hb => ?_) (fun hb => ?_)
        · rw [if_pos (by simpa using hb)]
          refine nK ?_
          refine s_reg rfl ?_
          refine Run.pure (dd := some 4) rfl rfl (op_assign rfl (Opd.const _)) ?_
          refine Run.nil (FinR.mk ?_)
          refine nK ?_
          (first | exact s_o1 hC rfl tV | exact s_o2 hC rfl tV tV | exact s_o3 hC rfl tV tV tV | exact s_o4 hC rfl tV tV tV tV | exact s_out0 hC rfl | exact s_outO hC rfl rfl rfl)
        · rw [if_neg (by simpa using hb)]
          refine nK ?_
          refine s_reg rfl ?_
          refine Run.pure (dd := some 4) rfl rfl (op_assign rfl (Opd.const _)) ?_
          refine Run.nil (FinR.mk ?_)
          refine nK ?_
          (first | exact s_o1 hC rfl tV | exact s_o2 hC rfl tV tV | exact s_o3 hC rfl tV tV tV | exact s_o4 hC rfl tV tV tV tV | exact s_out0 hC rfl | exact s_outO hC rfl rfl rfl)
theorem nanA_c (a : Int) : Pure Try.prog 79 [If .u32 a] (Bf false) := by
  rw [show (false) = decide (a ≠ a) by simp]
  refine Meets.intro Try.func79 rfl (Nat.le_of_ble_eq_true rfl) fun C hC => ?_
  simp only [List.map, argEnv, Nat.reduceAdd]
  refine nK ?_
  refine s_reg rfl ?_
  refine Run.pure (dd := some 2) rfl rfl (op_assign rfl (Opd.const _)) ?_
  refine Run.nil (FinR.mk ?_)
  refine nK ?_
  refine s_reg rfl ?_
  refine Run.pure (dd := some 3) rfl rfl (op_move rfl (Opd.tmp _ _ rfl)) ?_
  refine Run.pure (dd := some 4) rfl rfl (op_move rfl (Opd.tmp _ _ rfl)) ?_
  refine Run.pure (dd := some 5) rfl rfl (op_neq rfl (Opd.tmp _ _ rfl) (Opd.tmp _ _ rfl)) ?_
  refine Run.pure (dd := some 2) rfl rfl (op_assign rfl (Opd.tmp _ _ rfl)) ?_
  refine Run.nil (FinR.mk ?_)
  refine nK ?_
  (first | exact s_o1 hC rfl tV | exact s_o2 hC rfl tV tV | exact s_o3 hC rfl tV tV tV | exact s_o4 hC rfl tV tV tV tV | exact s_out0 hC rfl | exact s_outO hC rfl rfl rfl)
theorem cmpA_c (a b : Int) : Pure Try.prog 69 [If .u32 a, If .u32 b] (If .i64 (cmpI a b)) := by
  refine Meets.intro Try.func69 rfl (Nat.le_of_ble_eq_true rfl) fun C hC => ?_
  simp only [List.map, argEnv, Nat.reduceAdd]
  refine nK ?_
  refine s_reg rfl ?_
  refine Run.pure (dd := some 4) rfl rfl (op_assign rfl (Opd.const _)) ?_
  refine Run.nil (FinR.mk ?_)
  refine nK ?_
  refine s_reg rfl ?_
  refine Run.pure (dd := some 7) rfl rfl (op_move rfl (Opd.tmp _ _ rfl)) ?_
  refine Run.pure (dd := some 8) rfl rfl (op_call_pure (fun _ => nanA_c _) rfl (Opd.func _) (Opds.cons _ _ _ _ (Opd.tmp _ _ rfl) Opds.nil)) ?_
  refine Run.pure (dd := some 5) rfl rfl (op_assign rfl (Opd.tmp _ _ rfl)) ?_
  refine Run.nil (FinR.mk ?_)
  refine nK ?_
  refine s_reg rfl ?_
  refine Run.pure (dd := some 9) rfl rfl (op_move rfl (Opd.tmp _ _ rfl)) ?_
  refine Run.pure (dd := some 10) rfl rfl (op_call_pure (fun _ => nanA_c _) rfl (Opd.func _) (Opds.cons _ _ _ _ (Opd.tmp _ _ rfl) Opds.nil)) ?_
  refine Run.pure (dd := some 6) rfl rfl (op_assign rfl (Opd.tmp _ _ rfl)) ?_
  refine Run.nil (FinR.mk ?_)
  refine nK ?_
  refine s_reg rfl ?_
  refine Run.pure (dd := some 11) rfl rfl (op_move rfl (Opd.tmp _ _ rfl)) ?_
  refine Run.nil (FinR.mk ?_)
  refine nK ?_
  refine n_cond _ rfl (fun hb => ?_) (fun hb => ?_)
  · cases hb
  · refine nK ?_
    refine s_reg rfl ?_
    refine Run.pure (dd := some 13) rfl rfl (op_move rfl (Opd.tmp _ _ rfl)) ?_
    refine Run.nil (FinR.mk ?_)
    refine nK ?_
    refine n_cond _ rfl (fun hb => ?_) (fun hb => ?_)
    · cases hb
    · unfold cmpI
      refine nK ?_
      refine s_reg rfl ?_
      refine Run.pure (dd := some 14) rfl rfl (op_move rfl (Opd.tmp _ _ rfl)) ?_
      refine Run.pure (dd := some 15) rfl rfl (op_move rfl (Opd.tmp _ _ rfl)) ?_
      refine Run.pure (dd := some 16) rfl rfl (op_lss rfl (Opd.tmp _ _ rfl) (Opd.tmp _ _ rfl)) ?_
      refine Run.nil (FinR.mk ?_)
      refine nK ?_
      refine n_cond _ rfl (fun hb => ?_) (fun hb => ?_)
      · rw [if_pos (by simpa using hb)]
        refine nK ?_
        refine s_reg rfl ?_
        refine Run.pure (dd := some 4) rfl rfl (op_assign rfl (Opd.const _)) ?_
        refine Run.nil (FinR.mk ?_)
        refine nK ?_
        (first | exact s_o1 hC rfl tV | exact s_o2 hC rfl tV tV | exact s_o3 hC rfl tV tV tV | exact s_o4 hC rfl tV tV tV tV | exact s_out0 hC rfl | exact s_outO hC rfl rfl rfl)
      · rw [if_neg (by simpa using hb)]
        refine nK ?_
        refine s_reg rfl ?_
        refine Run.pure (dd := some 17) rfl rfl (op_move rfl (Opd.tmp _ _ rfl)) ?_
        refine Run.pure (dd := some 18) rfl rfl (op_move rfl (Opd.tmp _ _ rfl)) ?_
        refine Run.pure (dd := some 19) rfl rfl (op_gtr rfl (Opd.tmp _ _ rfl) (Opd.tmp _ _ rfl)) ?_
        refine Run.nil (FinR.mk ?_)
        refine nK ?_
        refine n_cond _ rfl (fun hb => ?_) (fun hb => ?_)
        · rw [if_pos (by simpa using hb)]
          refine nK ?_
          refine s_reg rfl ?_
          refine Run.pure (dd := some 4) rfl rfl (op_assign rfl (Opd.const _)) ?_
          refine Run.nil (FinR.mk ?_)
          refine nK ?_
          (first | exact s_o1 hC rfl tV | exact s_o2 hC rfl tV tV | exact s_o3 hC rfl tV tV tV | exact s_o4 hC rfl tV tV tV tV | exact s_out0 hC rfl | exact s_outO hC rfl rfl rfl)
        · rw [if_neg (by simpa using hb)]
          refine nK ?_
          refine s_reg rfl ?_
          refine Run.pure (dd := some 4) rfl rfl (op_assign rfl (Opd.const _)) ?_
          refine Run.nil (FinR.mk ?_)
          refine nK ?_
          (first | exact s_o1 hC rfl tV | exact s_o2 hC rfl tV tV | exact s_o3 hC rfl tV tV tV | exact s_o4 hC rfl tV tV tV tV | exact s_out0 hC rfl | exact s_outO hC rfl rfl rfl)
def orI : List Int → Int
  | [] => 0
  | x :: l => if x ≠ 0 then x else orI l
theorem or_c (l : List Int) (hn : l.length ≤ 1000000) : Pure Try.prog 35 [VI l] (If .i64 (orI l)) := by
  refine Meets.intro Try.func35 rfl (Nat.le_of_ble_eq_true rfl) fun C hC => ?_
  simp only [List.map, argEnv, Nat.reduceAdd]
  refine nK ?_
  refine s_reg rfl ?_
  refine Run.pure (dd := some 2) rfl rfl (op_assign rfl (Opd.const _)) ?_
  refine Run.nil (FinR.mk ?_)
  refine nK ?_
  refine s_reg rfl ?_
  refine Run.pure (dd := some 3) rfl rfl (op_assign rfl (Opd.const _)) ?_
  refine Run.nil (FinR.mk ?_)
  refine nK ?_
  refine s_reg rfl ?_
  refine Run.pure (dd := some 6) rfl rfl (op_move rfl (Opd.tmp _ _ rfl)) ?_
  refine Run.pure (dd := some 7) rfl rfl (op_len_fz rfl (by first | exact Opd.tmp _ _ rfl | exact Opd.nil _ _ (Opd.tmp _ _ rfl)) (by first | exact List.length_map _ | rfl)) ?_
  refine Run.pure (dd := some 8) rfl rfl (op_move rfl (Opd.const _)) ?_
  refine Run.nil (FinR.mk ?_)
  refine nK ?_
  refine n_loop (ι := Nat) (fun i => ([(3, IV .i64 0), (6, .fz (VI l)), (7, IV .i64 l.length), (8, IV .i64 i)], [], 0)) (fun i => i ≤ l.length ∧ orI (l.drop i) = orI l) (fun i => l.length - i) 0 ⟨Nat.zero_le _, rfl⟩ ?_ ?_
  · refine Next.weak [] [] (by rfl) (keeps0 hC _) (by repeat (first | exact trivial | refine ⟨⟨_, rfl, .inl ⟨rfl, rfl⟩⟩, ?_⟩)) (by repeat (first | exact trivial | refine ⟨ent_same rfl rfl rfl tL, ?_⟩ | refine ⟨ent_same rfl rfl (rfEq rfl tU) tL, ?_⟩ | refine ⟨ent_same rfl rfl (flEq rfl (by first | (simp; done) | (simp; omega) | (simp [encP]; done) | simp [maxC, minC])) trivial, ?_⟩)) (fun _ h => by simp at h) rel_intro
  · intro i ⟨hi, ho⟩ K hK
    refine nK ?_
    refine s_reg rfl ?_
    refine Run.pure (dd := some 9) rfl rfl (op_lss rfl (Opd.tmp _ _ rfl) (Opd.tmp _ _ rfl)) ?_
    refine Run.nil (FinR.mk ?_)
    refine nK ?_
    refine n_cond _ rfl (fun hb => ?_) (fun hb => ?_)
    · have hlt : i < l.length := by simp at hb; omega
      have hr1 := row_at' encN l i hlt
      rw [List.drop_eq_getElem_cons hlt] at ho
      simp only [orI] at ho
      have hK1 := fun h => hK (i + 1) ⟨by omega, h⟩ (by omega)
      generalize l[i] = x at *
      refine nK ?_
      refine s_reg rfl ?_
      refine Run.pure (dd := some 10) rfl rfl (op_idx_fz _ rfl (Opd.tmp _ _ rfl) (Opd.tmp _ _ rfl) tF) ?_
      refine Run.pure (dd := some 11) rfl rfl (op_load1_fz rfl (Opd.tmp _ _ rfl) rfl) ?_
      refine Run.pure (dd := some 5) rfl rfl (op_assign rfl (Opd.tmp _ _ rfl)) ?_
      refine Run.nil (FinR.mk ?_)
      refine nK ?_
      refine s_reg rfl ?_
      refine Run.pure (dd := some 12) rfl rfl (op_move rfl (Opd.tmp _ _ rfl)) ?_
      refine Run.pure (dd := some 13) rfl rfl (op_move rfl (Opd.tmp _ _ rfl)) ?_
      refine Run.pure (dd := some 14) rfl rfl (op_neq rfl (Opd.tmp _ _ rfl) (Opd.tmp _ _ rfl)) ?_
      refine Run.nil (FinR.mk ?_)
      refine nK ?_
      refine n_cond _ rfl (fun hb => ?_) (fun hb => ?_)
      · rw [if_pos (by simpa using hb)] at ho
        rw [← ho]
        refine nK ?_
        refine s_reg rfl ?_
        refine Run.pure (dd := some 15) rfl rfl (op_move rfl (Opd.tmp _ _ rfl)) ?_
        refine Run.pure (dd := some 2) rfl rfl (op_assign rfl (Opd.tmp _ _ rfl)) ?_
        refine Run.nil (FinR.mk ?_)
        refine nK ?_
        (first | exact s_o1 hC rfl tV | exact s_o2 hC rfl tV tV | exact s_o3 hC rfl tV tV tV | exact s_o4 hC rfl tV tV tV tV | exact s_out0 hC rfl | exact s_outO hC rfl rfl rfl)
      · rw [if_neg (by simpa using hb)] at ho
        refine nK ?_
        refine s_reg rfl ?_
        refine Run.pure (dd := some 16) rfl rfl (op_add rfl (Opd.tmp _ _ rfl) (Opd.const _) tI) ?_
        refine Run.pure (dd := some 8) rfl rfl (op_move rfl (Opd.tmp _ _ rfl)) ?_
        refine Run.nil (FinR.mk ?_)
        refine nK ?_
        refine Next.weak [] [] (by rfl) (keeps0 hC _) (by repeat (first | exact trivial | refine ⟨⟨_, rfl, .inl ⟨rfl, rfl⟩⟩, ?_⟩)) (by repeat (first | exact trivial | refine ⟨ent_same rfl rfl rfl tL, ?_⟩ | refine ⟨ent_same rfl rfl (rfEq rfl tU) tL, ?_⟩ | refine ⟨ent_same rfl rfl (flEq rfl (by first | (simp; done) | (simp; omega) | (simp [encP]; done) | simp [maxC, minC])) trivial, ?_⟩)) (fun _ h => by simp at h) (hK1 ho)
    · have hie : i = l.length := by simp at hb; omega
      rw [hie, List.drop_length] at ho
      rw [← ho]
      refine nK ?_
      refine s_reg rfl ?_
      refine Run.pure (dd := some 17) rfl rfl (op_move rfl (Opd.tmp _ _ rfl)) ?_
      refine Run.pure (dd := some 2) rfl rfl (op_assign rfl (Opd.tmp _ _ rfl)) ?_
      refine Run.nil (FinR.mk ?_)
      refine nK ?_
      (first | exact s_o1 hC rfl tV | exact s_o2 hC rfl tV tV | exact s_o3 hC rfl tV tV tV | exact s_o4 hC rfl tV tV tV tV | exact s_out0 hC rfl | exact s_outO hC rfl rfl rfl)
abbrev lenOk (n : Nat) : Prop := n ≤ 9223372036854775807
theorem out_c (n lo hi : Int) : Pure Try.prog 48 [If .i64 n, If .i64 lo, If .i64 hi] (Bf (outB n lo hi)) := by
  unfold outB
  refine Meets.intro Try.func48 rfl (Nat.le_of_ble_eq_true rfl) fun C hC => ?_
  simp only [List.map, argEnv, Nat.reduceAdd]
  refine nK ?_
  refine s_reg rfl ?_
  refine Run.pure (dd := some 6) rfl rfl (op_assign rfl (Opd.const _)) ?_
  refine Run.nil (FinR.mk ?_)
  refine nK ?_
  refine s_reg rfl ?_
  refine Run.pure (dd := some 7) rfl rfl (op_move rfl (Opd.tmp _ _ rfl)) ?_
  refine Run.pure (dd := some 8) rfl rfl (op_move rfl (Opd.tmp _ _ rfl)) ?_
  refine Run.pure (dd := some 9) rfl rfl (op_lss rfl (Opd.tmp _ _ rfl) (Opd.tmp _ _ rfl)) ?_
  refine Run.pure (dd := some 10) rfl rfl (op_move rfl (Opd.tmp _ _ rfl)) ?_
  refine Run.pureG (dd := some 11) rfl rfl rfl tG (op_move rfl (Opd.tmp _ _ rfl)) ?_
  refine Run.pureG (dd := some 12) rfl rfl rfl tG (op_move rfl (Opd.tmp _ _ rfl)) ?_
  refine Run.pureG (dd := some 13) rfl rfl rfl tG (op_gtr rfl (Opd.topt _ _ _ rfl tO) (Opd.topt _ _ _ rfl tO)) ?_
  refine Run.pure (dd := some 14) rfl rfl (op_pick_or rfl (Opd.tmp _ _ rfl) (Opd.topt _ _ _ rfl tO)) ?_
  refine Run.pure (dd := some 6) rfl rfl (op_assign rfl (Opd.tmp _ _ rfl)) ?_
  refine Run.nil (FinR.mk ?_)
  refine nK ?_
  (first | exact s_o1 hC rfl tV | exact s_o2 hC rfl tV tV | exact s_o3 hC rfl tV tV tV | exact s_o4 hC rfl tV tV tV tV | exact s_out0 hC rfl | exact s_outO hC rfl rfl rfl)
theorem proto_c (n : Int) : Pure Try.prog 50 [If .i64 n] (Bf (!outB n 1 7)) := by
  have e : (!outB n 1 7) = (decide (1 ≤ n) && decide (n ≤ 7)) := by rw [Bool.eq_iff_iff]; simp [outB]
  rw [e]
  refine Meets.intro Try.func50 rfl (Nat.le_of_ble_eq_true rfl) fun C hC => ?_
  simp only [List.map, argEnv, Nat.reduceAdd]
  refine nK ?_
  refine s_reg rfl ?_
  refine Run.pure (dd := some 2) rfl rfl (op_assign rfl (Opd.const _)) ?_
  refine Run.nil (FinR.mk ?_)
  refine nK ?_
  refine s_reg rfl ?_
  refine Run.pure (dd := some 3) rfl rfl (op_move rfl (Opd.tmp _ _ rfl)) ?_
  refine Run.pure (dd := some 4) rfl rfl (op_geq rfl (Opd.tmp _ _ rfl) (Opd.const _)) ?_
  refine Run.pure (dd := some 5) rfl rfl (op_move rfl (Opd.tmp _ _ rfl)) ?_
  refine Run.pureG (dd := some 6) rfl rfl rfl tG (op_move rfl (Opd.tmp _ _ rfl)) ?_
  refine Run.pureG (dd := some 7) rfl rfl rfl tG (op_leq rfl (Opd.topt _ _ _ rfl tO) (Opd.const _)) ?_
  refine Run.pure (dd := some 8) rfl rfl (op_pick_and rfl (Opd.tmp _ _ rfl) (Opd.topt _ _ _ rfl tO)) ?_
  refine Run.pure (dd := some 2) rfl rfl (op_assign rfl (Opd.tmp _ _ rfl)) ?_
  refine Run.nil (FinR.mk ?_)
  refine nK ?_
  (first | exact s_o1 hC rfl tV | exact s_o2 hC rfl tV tV | exact s_o3 hC rfl tV tV tV | exact s_o4 hC rfl tV tV tV tV | exact s_out0 hC rfl | exact s_outO hC rfl rfl rfl)
theorem dist_c (ds : List Int) (p : Int) (hn : lenOk ds.length) : Pure Try.prog 16 [VI ds, If .i64 p] (If .i64 (distF ds p)) := by
  unfold distF
  refine Meets.intro Try.func16 rfl (Nat.le_of_ble_eq_true rfl) fun C hC => ?_
  simp only [List.map, argEnv, Nat.reduceAdd]
  refine nK ?_
  refine s_reg rfl ?_
  refine Run.pure (dd := some 4) rfl rfl (op_assign rfl (Opd.const _)) ?_
  refine Run.nil (FinR.mk ?_)
  refine nK ?_
  refine s_reg rfl ?_
  refine Run.pure (dd := some 5) rfl rfl (op_move rfl (Opd.tmp _ _ rfl)) ?_
  refine Run.pure (dd := some 6) rfl rfl (op_geq rfl (Opd.tmp _ _ rfl) (Opd.const _)) ?_
  refine Run.pure (dd := some 7) rfl rfl (op_move rfl (Opd.tmp _ _ rfl)) ?_
  refine Run.pureG (dd := some 8) rfl rfl rfl tG (op_move rfl (Opd.tmp _ _ rfl)) ?_
  refine Run.pureG (dd := some 9) rfl rfl rfl tG (op_move rfl (Opd.tmp _ _ rfl)) ?_
  refine Run.pureG (dd := some 10) rfl rfl rfl tG (op_len_fz rfl (by first | exact Opd.topt _ _ _ rfl tO | exact Opd.nil _ _ (Opd.topt _ _ _ rfl tO)) (by first | exact List.length_map _ | rfl)) ?_
  refine Run.pureG (dd := some 11) rfl rfl rfl tG (op_leq rfl (Opd.topt _ _ _ rfl tO) (Opd.topt _ _ _ rfl tO)) ?_
  refine Run.pure (dd := some 12) rfl rfl (op_pick_and rfl (Opd.tmp _ _ rfl) (Opd.topt _ _ _ rfl tO)) ?_
  refine Run.nil (FinR.mk ?_)
  refine nK ?_
  refine n_cond _ rfl (fun hb => ?_) (fun hb => ?_)
  · have h1 : 1 ≤ p ∧ p ≤ ds.length := by simpa using hb
    rw [if_pos h1]
    have hlt : p.toNat - 1 < ds.length := by omega
    have hr1 := row_at' encN ds (p.toNat - 1) hlt
    rw [List.getD_eq_getElem?_getD, List.getElem?_eq_getElem hlt, Option.getD_some]
    generalize ds[p.toNat - 1] = x at *
    refine nK ?_
    refine s_reg rfl ?_
    refine Run.pure (dd := some 13) rfl rfl (op_move rfl (Opd.tmp _ _ rfl)) ?_
    refine Run.pure (dd := some 14) rfl rfl (op_move rfl (Opd.tmp _ _ rfl)) ?_
    refine Run.pure (dd := some 15) rfl rfl (op_sub rfl (Opd.tmp _ _ rfl) (Opd.const _) tI) ?_
    refine Run.pure (dd := some 16) rfl rfl (op_idx_fz (p.toNat - 1) rfl (Opd.tmp _ _ rfl) (Opd.tmp _ _ rfl) (by intro _; refine ⟨by omega, ?_⟩; assumption)) ?_
    refine Run.pure (dd := some 17) rfl rfl (op_load1_fz rfl (Opd.tmp _ _ rfl) rfl) ?_
    refine Run.pure (dd := some 4) rfl rfl (op_assign rfl (Opd.tmp _ _ rfl)) ?_
    refine Run.nil (FinR.mk ?_)
    refine nK ?_
    (first | exact s_o1 hC rfl tV | exact s_o2 hC rfl tV tV | exact s_o3 hC rfl tV tV tV | exact s_o4 hC rfl tV tV tV tV | exact s_out0 hC rfl | exact s_outO hC rfl rfl rfl)
  · have h1 : ¬ (1 ≤ p ∧ p ≤ ds.length) := by simp at hb; omega
    rw [if_neg h1]
    refine nK ?_
    refine s_reg rfl ?_
    refine Run.pure (dd := some 18) rfl rfl (op_move rfl (Opd.tmp _ _ rfl)) ?_
    refine Run.nil (FinR.mk ?_)
    refine nK ?_
    refine s_reg rfl ?_
    refine Run.pure (dd := some 20) rfl rfl (op_eql rfl (Opd.tmp _ _ rfl) (Opd.const _)) ?_
    refine Run.pure (dd := some 19) rfl rfl (op_assign rfl (Opd.tmp _ _ rfl)) ?_
    refine Run.nil (FinR.mk ?_)
    refine nK ?_
    refine n_cond _ rfl (fun hb => ?_) (fun hb => ?_)
    · rw [if_pos (by simpa using hb)]
      refine nK ?_
      refine s_reg rfl ?_
      refine Run.pure (dd := some 4) rfl rfl (op_assign rfl (Opd.const _)) ?_
      refine Run.nil (FinR.mk ?_)
      refine nK ?_
      (first | exact s_o1 hC rfl tV | exact s_o2 hC rfl tV tV | exact s_o3 hC rfl tV tV tV | exact s_o4 hC rfl tV tV tV tV | exact s_out0 hC rfl | exact s_outO hC rfl rfl rfl)
    · rw [if_neg (by simpa using hb)]
      refine nK ?_
      refine s_reg rfl ?_
      refine Run.pure (dd := some 22) rfl rfl (op_eql rfl (Opd.tmp _ _ rfl) (Opd.const _)) ?_
      refine Run.pure (dd := some 21) rfl rfl (op_assign rfl (Opd.tmp _ _ rfl)) ?_
      refine Run.nil (FinR.mk ?_)
      refine nK ?_
      refine n_cond _ rfl (fun hb => ?_) (fun hb => ?_)
      · rw [if_pos (by simpa using hb)]
        refine nK ?_
        refine s_reg rfl ?_
        refine Run.pure (dd := some 4) rfl rfl (op_assign rfl (Opd.const _)) ?_
        refine Run.nil (FinR.mk ?_)
        refine nK ?_
        (first | exact s_o1 hC rfl tV | exact s_o2 hC rfl tV tV | exact s_o3 hC rfl tV tV tV | exact s_o4 hC rfl tV tV tV tV | exact s_out0 hC rfl | exact s_outO hC rfl rfl rfl)
      · rw [if_neg (by simpa using hb)]
        refine nK ?_
        refine s_reg rfl ?_
        refine Run.pure (dd := some 24) rfl rfl (op_eql rfl (Opd.tmp _ _ rfl) (Opd.const _)) ?_
        refine Run.pure (dd := some 23) rfl rfl (op_assign rfl (Opd.tmp _ _ rfl)) ?_
        refine Run.nil (FinR.mk ?_)
        refine nK ?_
        refine n_cond _ rfl (fun hb => ?_) (fun hb => ?_)
        · have h3 : p = 3 := by simpa using hb
          rw [if_pos (.inl h3)]
          refine nK ?_
          refine n_cond _ rfl (fun hb => ?_) (fun hb => ?_)
          · refine nK ?_
            refine s_reg rfl ?_
            refine Run.pure (dd := some 4) rfl rfl (op_assign rfl (Opd.const _)) ?_
            refine Run.nil (FinR.mk ?_)
            refine nK ?_
            (first | exact s_o1 hC rfl tV | exact s_o2 hC rfl tV tV | exact s_o3 hC rfl tV tV tV | exact s_o4 hC rfl tV tV tV tV | exact s_out0 hC rfl | exact s_outO hC rfl rfl rfl)
          · exfalso; simp at hb; omega
        · refine nK ?_
          refine s_reg rfl ?_
          refine Run.pure (dd := some 25) rfl rfl (op_eql rfl (Opd.tmp _ _ rfl) (Opd.const _)) ?_
          refine Run.pure (dd := some 23) rfl rfl (op_assign rfl (Opd.tmp _ _ rfl)) ?_
          refine Run.nil (FinR.mk ?_)
          refine nK ?_
          refine n_cond _ rfl (fun hb => ?_) (fun hb => ?_)
          · have h3 : p = 4 := by simpa using hb
            rw [if_pos (.inr (.inl h3))]
            refine nK ?_
            refine n_cond _ rfl (fun hb => ?_) (fun hb => ?_)
            · refine nK ?_
              refine s_reg rfl ?_
              refine Run.pure (dd := some 4) rfl rfl (op_assign rfl (Opd.const _)) ?_
              refine Run.nil (FinR.mk ?_)
              refine nK ?_
              (first | exact s_o1 hC rfl tV | exact s_o2 hC rfl tV tV | exact s_o3 hC rfl tV tV tV | exact s_o4 hC rfl tV tV tV tV | exact s_out0 hC rfl | exact s_outO hC rfl rfl rfl)
            · exfalso; simp at hb; omega
          · refine nK ?_
            refine s_reg rfl ?_
            refine Run.pure (dd := some 26) rfl rfl (op_eql rfl (Opd.tmp _ _ rfl) (Opd.const _)) ?_
            refine Run.pure (dd := some 23) rfl rfl (op_assign rfl (Opd.tmp _ _ rfl)) ?_
            refine Run.nil (FinR.mk ?_)
            refine nK ?_
            refine n_cond _ rfl (fun hb => ?_) (fun hb => ?_)
            · have h3 : p = 5 := by simpa using hb
              rw [if_pos (.inr (.inr h3))]
              refine nK ?_
              refine s_reg rfl ?_
              refine Run.pure (dd := some 4) rfl rfl (op_assign rfl (Opd.const _)) ?_
              refine Run.nil (FinR.mk ?_)
              refine nK ?_
              (first | exact s_o1 hC rfl tV | exact s_o2 hC rfl tV tV | exact s_o3 hC rfl tV tV tV | exact s_o4 hC rfl tV tV tV tV | exact s_out0 hC rfl | exact s_outO hC rfl rfl rfl)
            · rename_i hb3 hb4
              have h3 : ¬ (p = 3 ∨ p = 4 ∨ p = 5) := by simp at hb hb3 hb4; omega
              rw [if_neg h3]
              refine nK ?_
              refine s_reg rfl ?_
              refine Run.pure (dd := some 28) rfl rfl (op_eql rfl (Opd.tmp _ _ rfl) (Opd.const _)) ?_
              refine Run.pure (dd := some 27) rfl rfl (op_assign rfl (Opd.tmp _ _ rfl)) ?_
              refine Run.nil (FinR.mk ?_)
              refine nK ?_
              refine n_cond _ rfl (fun hb => ?_) (fun hb => ?_)
              · rw [if_pos (by simpa using hb)]
                refine nK ?_
                refine s_reg rfl ?_
                refine Run.pure (dd := some 4) rfl rfl (op_assign rfl (Opd.const _)) ?_
                refine Run.nil (FinR.mk ?_)
                refine nK ?_
                (first | exact s_o1 hC rfl tV | exact s_o2 hC rfl tV tV | exact s_o3 hC rfl tV tV tV | exact s_o4 hC rfl tV tV tV tV | exact s_out0 hC rfl | exact s_outO hC rfl rfl rfl)
              · rw [if_neg (by simpa using hb)]
                refine nK ?_
                refine s_reg rfl ?_
                refine Run.pure (dd := some 30) rfl rfl (op_eql rfl (Opd.tmp _ _ rfl) (Opd.const _)) ?_
                refine Run.pure (dd := some 29) rfl rfl (op_assign rfl (Opd.tmp _ _ rfl)) ?_
                refine Run.nil (FinR.mk ?_)
                refine nK ?_
                refine n_cond _ rfl (fun hb => ?_) (fun hb => ?_)
                · rw [if_pos (by simpa using hb)]
                  refine nK ?_
                  refine s_reg rfl ?_
                  refine Run.pure (dd := some 4) rfl rfl (op_assign rfl (Opd.const _)) ?_
                  refine Run.nil (FinR.mk ?_)
                  refine nK ?_
                  (first | exact s_o1 hC rfl tV | exact s_o2 hC rfl tV tV | exact s_o3 hC rfl tV tV tV | exact s_o4 hC rfl tV tV tV tV | exact s_out0 hC rfl | exact s_outO hC rfl rfl rfl)
                · rw [if_neg (by simpa using hb)]
                  refine nK ?_
                  refine s_reg rfl ?_
                  refine Run.pure (dd := some 4) rfl rfl (op_assign rfl (Opd.const _)) ?_
                  refine Run.nil (FinR.mk ?_)
                  refine nK ?_
                  (first | exact s_o1 hC rfl tV | exact s_o2 hC rfl tV tV | exact s_o3 hC rfl tV tV tV | exact s_o4 hC rfl tV tV tV tV | exact s_out0 hC rfl | exact s_outO hC rfl rfl rfl)
theorem rdist_c (ds : List Int) (p : Int) (hn : lenOk ds.length) : Pure Try.prog 17 [VI ds, If .i64 p] (If .i64 (distF ds p)) := by
  unfold distF
  refine Meets.intro Try.func17 rfl (Nat.le_of_ble_eq_true rfl) fun C hC => ?_
  simp only [List.map, argEnv, Nat.reduceAdd]
  refine nK ?_
  refine s_reg rfl ?_
  refine Run.pure (dd := some 4) rfl rfl (op_assign rfl (Opd.const _)) ?_
  refine Run.nil (FinR.mk ?_)
  refine nK ?_
  refine s_reg rfl ?_
  refine Run.pure (dd := some 5) rfl rfl (op_move rfl (Opd.tmp _ _ rfl)) ?_
  refine Run.pure (dd := some 6) rfl rfl (op_geq rfl (Opd.tmp _ _ rfl) (Opd.const _)) ?_
  refine Run.pure (dd := some 7) rfl rfl (op_move rfl (Opd.tmp _ _ rfl)) ?_
  refine Run.pureG (dd := some 8) rfl rfl rfl tG (op_move rfl (Opd.tmp _ _ rfl)) ?_
  refine Run.pureG (dd := some 9) rfl rfl rfl tG (op_move rfl (Opd.tmp _ _ rfl)) ?_
  refine Run.pureG (dd := some 10) rfl rfl rfl tG (op_len_fz rfl (by first | exact Opd.topt _ _ _ rfl tO | exact Opd.nil _ _ (Opd.topt _ _ _ rfl tO)) (by first | exact List.length_map _ | rfl)) ?_
  refine Run.pureG (dd := some 11) rfl rfl rfl tG (op_leq rfl (Opd.topt _ _ _ rfl tO) (Opd.topt _ _ _ rfl tO)) ?_
  refine Run.pure (dd := some 12) rfl rfl (op_pick_and rfl (Opd.tmp _ _ rfl) (Opd.topt _ _ _ rfl tO)) ?_
  refine Run.nil (FinR.mk ?_)
  refine nK ?_
  refine n_cond _ rfl (fun hb => ?_) (fun hb => ?_)
  · have h1 : 1 ≤ p ∧ p ≤ ds.length := by simpa using hb
    rw [if_pos h1]
    have hlt : p.toNat - 1 < ds.length := by omega
    have hr1 := row_at' encN ds (p.toNat - 1) hlt
    rw [List.getD_eq_getElem?_getD, List.getElem?_eq_getElem hlt, Option.getD_some]
    generalize ds[p.toNat - 1] = x at *
    refine nK ?_
    refine s_reg rfl ?_
    refine Run.pure (dd := some 13) rfl rfl (op_move rfl (Opd.tmp _ _ rfl)) ?_
    refine Run.pure (dd := some 14) rfl rfl (op_move rfl (Opd.tmp _ _ rfl)) ?_
    refine Run.pure (dd := some 15) rfl rfl (op_sub rfl (Opd.tmp _ _ rfl) (Opd.const _) tI) ?_
    refine Run.pure (dd := some 16) rfl rfl (op_idx_fz (p.toNat - 1) rfl (Opd.tmp _ _ rfl) (Opd.tmp _ _ rfl) (by intro _; refine ⟨by omega, ?_⟩; assumption)) ?_
    refine Run.pure (dd := some 17) rfl rfl (op_load1_fz rfl (Opd.tmp _ _ rfl) rfl) ?_
    refine Run.pure (dd := some 4) rfl rfl (op_assign rfl (Opd.tmp _ _ rfl)) ?_
    refine Run.nil (FinR.mk ?_)
    refine nK ?_
    (first | exact s_o1 hC rfl tV | exact s_o2 hC rfl tV tV | exact s_o3 hC rfl tV tV tV | exact s_o4 hC rfl tV tV tV tV | exact s_out0 hC rfl | exact s_outO hC rfl rfl rfl)
  · have h1 : ¬ (1 ≤ p ∧ p ≤ ds.length) := by simp at hb; omega
    rw [if_neg h1]
    refine nK ?_
    refine s_reg rfl ?_
    refine Run.pure (dd := some 18) rfl rfl (op_move rfl (Opd.tmp _ _ rfl)) ?_
    refine Run.nil (FinR.mk ?_)
    refine nK ?_
    refine s_reg rfl ?_
    refine Run.pure (dd := some 20) rfl rfl (op_eql rfl (Opd.tmp _ _ rfl) (Opd.const _)) ?_
    refine Run.pure (dd := some 19) rfl rfl (op_assign rfl (Opd.tmp _ _ rfl)) ?_
    refine Run.nil (FinR.mk ?_)
    refine nK ?_
    refine n_cond _ rfl (fun hb => ?_) (fun hb => ?_)
    · rw [if_pos (by simpa using hb)]
      refine nK ?_
      refine s_reg rfl ?_
      refine Run.pure (dd := some 4) rfl rfl (op_assign rfl (Opd.const _)) ?_
      refine Run.nil (FinR.mk ?_)
      refine nK ?_
      (first | exact s_o1 hC rfl tV | exact s_o2 hC rfl tV tV | exact s_o3 hC rfl tV tV tV | exact s_o4 hC rfl tV tV tV tV | exact s_out0 hC rfl | exact s_outO hC rfl rfl rfl)
    · rw [if_neg (by simpa using hb)]
      refine nK ?_
      refine s_reg rfl ?_
      refine Run.pure (dd := some 22) rfl rfl (op_eql rfl (Opd.tmp _ _ rfl) (Opd.const _)) ?_
      refine Run.pure (dd := some 21) rfl rfl (op_assign rfl (Opd.tmp _ _ rfl)) ?_
      refine Run.nil (FinR.mk ?_)
      refine nK ?_
      refine n_cond _ rfl (fun hb => ?_) (fun hb => ?_)
      · rw [if_pos (by simpa using hb)]
        refine nK ?_
        refine s_reg rfl ?_
        refine Run.pure (dd := some 4) rfl rfl (op_assign rfl (Opd.const _)) ?_
        refine Run.nil (FinR.mk ?_)
        refine nK ?_
        (first | exact s_o1 hC rfl tV | exact s_o2 hC rfl tV tV | exact s_o3 hC rfl tV tV tV | exact s_o4 hC rfl tV tV tV tV | exact s_out0 hC rfl | exact s_outO hC rfl rfl rfl)
      · rw [if_neg (by simpa using hb)]
        refine nK ?_
        refine s_reg rfl ?_
        refine Run.pure (dd := some 24) rfl rfl (op_eql rfl (Opd.tmp _ _ rfl) (Opd.const _)) ?_
        refine Run.pure (dd := some 23) rfl rfl (op_assign rfl (Opd.tmp _ _ rfl)) ?_
        refine Run.nil (FinR.mk ?_)
        refine nK ?_
        refine n_cond _ rfl (fun hb => ?_) (fun hb => ?_)
        · have h3 : p = 3 := by simpa using hb
          rw [if_pos (.inl h3)]
          refine nK ?_
          refine n_cond _ rfl (fun hb => ?_) (fun hb => ?_)
          · refine nK ?_
            refine s_reg rfl ?_
            refine Run.pure (dd := some 4) rfl rfl (op_assign rfl (Opd.const _)) ?_
            refine Run.nil (FinR.mk ?_)
            refine nK ?_
            (first | exact s_o1 hC rfl tV | exact s_o2 hC rfl tV tV | exact s_o3 hC rfl tV tV tV | exact s_o4 hC rfl tV tV tV tV | exact s_out0 hC rfl | exact s_outO hC rfl rfl rfl)
          · exfalso; simp at hb; omega
        · refine nK ?_
          refine s_reg rfl ?_
          refine Run.pure (dd := some 25) rfl rfl (op_eql rfl (Opd.tmp _ _ rfl) (Opd.const _)) ?_
          refine Run.pure (dd := some 23) rfl rfl (op_assign rfl (Opd.tmp _ _ rfl)) ?_
          refine Run.nil (FinR.mk ?_)
          refine nK ?_
          refine n_cond _ rfl (fun hb => ?_) (fun hb => ?_)
          · have h3 : p = 4 := by simpa using hb
            rw [if_pos (.inr (.inl h3))]
            refine nK ?_
            refine n_cond _ rfl (fun hb => ?_) (fun hb => ?_)
            · refine nK ?_
              refine s_reg rfl ?_
              refine Run.pure (dd := some 4) rfl rfl (op_assign rfl (Opd.const _)) ?_
              refine Run.nil (FinR.mk ?_)
              refine nK ?_
              (first | exact s_o1 hC rfl tV | exact s_o2 hC rfl tV tV | exact s_o3 hC rfl tV tV tV | exact s_o4 hC rfl tV tV tV tV | exact s_out0 hC rfl | exact s_outO hC rfl rfl rfl)
            · exfalso; simp at hb; omega
          · refine nK ?_
            refine s_reg rfl ?_
            refine Run.pure (dd := some 26) rfl rfl (op_eql rfl (Opd.tmp _ _ rfl) (Opd.const _)) ?_
            refine Run.pure (dd := some 23) rfl rfl (op_assign rfl (Opd.tmp _ _ rfl)) ?_
            refine Run.nil (FinR.mk ?_)
            refine nK ?_
            refine n_cond _ rfl (fun hb => ?_) (fun hb => ?_)
            · have h3 : p = 5 := by simpa using hb
              rw [if_pos (.inr (.inr h3))]
              refine nK ?_
              refine s_reg rfl ?_
              refine Run.pure (dd := some 4) rfl rfl (op_assign rfl (Opd.const _)) ?_
              refine Run.nil (FinR.mk ?_)
              refine nK ?_
              (first | exact s_o1 hC rfl tV | exact s_o2 hC rfl tV tV | exact s_o3 hC rfl tV tV tV | exact s_o4 hC rfl tV tV tV tV | exact s_out0 hC rfl | exact s_outO hC rfl rfl rfl)
            · rename_i hb3 hb4
              have h3 : ¬ (p = 3 ∨ p = 4 ∨ p = 5) := by simp at hb hb3 hb4; omega
              rw [if_neg h3]
              refine nK ?_
              refine s_reg rfl ?_
              refine Run.pure (dd := some 28) rfl rfl (op_eql rfl (Opd.tmp _ _ rfl) (Opd.const _)) ?_
              refine Run.pure (dd := some 27) rfl rfl (op_assign rfl (Opd.tmp _ _ rfl)) ?_
              refine Run.nil (FinR.mk ?_)
              refine nK ?_
              refine n_cond _ rfl (fun hb => ?_) (fun hb => ?_)
              · rw [if_pos (by simpa using hb)]
                refine nK ?_
                refine s_reg rfl ?_
                refine Run.pure (dd := some 4) rfl rfl (op_assign rfl (Opd.const _)) ?_
                refine Run.nil (FinR.mk ?_)
                refine nK ?_
                (first | exact s_o1 hC rfl tV | exact s_o2 hC rfl tV tV | exact s_o3 hC rfl tV tV tV | exact s_o4 hC rfl tV tV tV tV | exact s_out0 hC rfl | exact s_outO hC rfl rfl rfl)
              · rw [if_neg (by simpa using hb)]
                refine nK ?_
                refine s_reg rfl ?_
                refine Run.pure (dd := some 30) rfl rfl (op_eql rfl (Opd.tmp _ _ rfl) (Opd.const _)) ?_
                refine Run.pure (dd := some 29) rfl rfl (op_assign rfl (Opd.tmp _ _ rfl)) ?_
                refine Run.nil (FinR.mk ?_)
                refine nK ?_
                refine n_cond _ rfl (fun hb => ?_) (fun hb => ?_)
                · rw [if_pos (by simpa using hb)]
                  refine nK ?_
                  refine s_reg rfl ?_
                  refine Run.pure (dd := some 4) rfl rfl (op_assign rfl (Opd.const _)) ?_
                  refine Run.nil (FinR.mk ?_)
                  refine nK ?_
                  (first | exact s_o1 hC rfl tV | exact s_o2 hC rfl tV tV | exact s_o3 hC rfl tV tV tV | exact s_o4 hC rfl tV tV tV tV | exact s_out0 hC rfl | exact s_outO hC rfl rfl rfl)
                · rw [if_neg (by simpa using hb)]
                  refine nK ?_
                  refine s_reg rfl ?_
                  refine Run.pure (dd := some 4) rfl rfl (op_assign rfl (Opd.const _)) ?_
                  refine Run.nil (FinR.mk ?_)
                  refine nK ?_
                  (first | exact s_o1 hC rfl tV | exact s_o2 hC rfl tV tV | exact s_o3 hC rfl tV tV tV | exact s_o4 hC rfl tV tV tV tV | exact s_out0 hC rfl | exact s_outO hC rfl rfl rfl)
end Go.Proofs.Ytinddhlmgiahiaa
/- Plain facts on runs of addresses. No program in sight. -/
namespace Go.Pl
open Go.RT
structure Spn where
  lo : Nat
  hi : Nat
  deriving DecidableEq
/-- ascending, disjoint, apart -/
def Canon (l : List Spn) : Prop := (∀ s ∈ l, s.lo < s.hi) ∧ l.Pairwise (fun a b => a.hi < b.lo)
theorem Canon.nil : Canon [] := ⟨by simp, by simp⟩

theorem Canon.push {l : List Spn} {s : Spn} (h : Canon l) (hs : s.lo < s.hi) (hl : ∀ o ∈ l, o.hi < s.lo) : Canon (l ++ [s]) := by
  refine ⟨fun o ho => ?_, ?_⟩
  · rcases List.mem_append.1 ho with h1 | h1
    · exact h.1 o h1
    · simp at h1; subst h1; exact hs
  · rw [List.pairwise_append]
    exact ⟨h.2, by simp, fun a ha b hb => by simp at hb; subst hb; exact hl a ha⟩
end Go.Pl
/- Lists of runs and lists of prefixes. No program in sight. -/
namespace Go.Pl
open Go.RT
/-! ## the runs of a list of prefixes -/
def okL (l : List Pfx) : Prop := ∀ p ∈ l, p.ok
/-! ## intersection and complement -/
def meetS (a b : List Spn) : List Spn := a.flatMap fun s => b.filterMap fun t => if max s.lo t.lo < min s.hi t.hi then some ⟨max s.lo t.lo, min s.hi t.hi⟩ else none
end Go.Pl
/- The blocks of a run. No program in sight. -/
namespace Go.Pl
open Go.RT
def blk (a k : Nat) : Pfx := ⟨a, 32 - (k : Int)⟩
/-- where the block twice as large begins -/
def pa (p : Pfx) : Nat := p.addr / (2 * sz p) * (2 * sz p)
open Go.RT
open Go.RT
end Go.Pl
namespace Go.Pl
@[simp] theorem meet_nil (a : List Spn) : meetS a [] = [] := by
  unfold meetS; induction a with
  | nil => rfl
  | cons s a ih => simp
@[simp] theorem meet_nil' (b : List Spn) : meetS [] b = [] := rfl
open Go.RT
open Go.RT
end Go.Pl
namespace Go.Proofs.Ytinddhlmgiahiaa
open Go Go.RT Go.Proofs Go.Pl
set_option linter.all false
set_option maxRecDepth 20000
theorem clamp_any (n most : Int) : Pure Try.prog 94 [If .i64 n, If .i64 most] (If .i64 (min (max n 0) most)) := by
  refine Meets.intro Try.func94 rfl (Nat.le_of_ble_eq_true rfl) fun C hC => ?_
  simp only [List.map, argEnv, Nat.reduceAdd]
  refine nK ?_
  refine s_reg rfl ?_
  refine Run.pure (dd := some 4) rfl rfl (op_assign rfl (Opd.const _)) ?_
  refine Run.nil (FinR.mk ?_)
  refine nK ?_
  refine s_reg rfl ?_
  refine Run.pure (dd := some 5) rfl rfl (op_move rfl (Opd.tmp _ _ rfl)) ?_
  refine Run.pure (dd := some 6) rfl rfl (op_max rfl (Opd.tmp _ _ rfl) (Opd.const _)) ?_
  refine Run.pure (dd := some 7) rfl rfl (op_move rfl (Opd.tmp _ _ rfl)) ?_
  refine Run.pure (dd := some 8) rfl rfl (op_min rfl (Opd.tmp _ _ rfl) (Opd.tmp _ _ rfl)) ?_
  refine Run.pure (dd := some 4) rfl rfl (op_assign rfl (Opd.tmp _ _ rfl)) ?_
  refine Run.nil (FinR.mk ?_)
  refine nK ?_
  (first | exact s_o1 hC rfl tV | exact s_o2 hC rfl tV tV | exact s_o3 hC rfl tV tV tV | exact s_o4 hC rfl tV tV tV tV | exact s_out0 hC rfl | exact s_outO hC rfl rfl rfl)

theorem mask_val (n : Int) : IV .u32 (IntKind.u32.wrap (4294967295 * 2 ^ (32 - clampN n))) = IV .u32 ((2 ^ 32 - 2 ^ (32 - clampN n) : Nat) : Int) := by
  have h1 : 2 ^ (32 - clampN n) ≤ 2 ^ 32 := Nat.pow_le_pow_right (by omega) (by omega)
  have := mask_wrap (32 - clampN n) (by omega)
  have e : (4294967295 * 2 ^ (32 - clampN n) : Int) = ((4294967295 * 2 ^ (32 - clampN n) : Nat) : Int) := by simp
  have h3 : IntKind.u32.wrap (4294967295 * 2 ^ (32 - clampN n)) = ((2 ^ 32 - 2 ^ (32 - clampN n) : Nat) : Int) := by
    rw [e]; simp only [IntKind.wrap, IntKind.bits, IntKind.signed]
    have : (4294967295 * 2 ^ (32 - clampN n)) % 2 ^ 32 = 2 ^ 32 - 2 ^ (32 - clampN n) := this
    simp; omega
  rw [h3]
theorem mask_any (n : Int) : Pure Try.prog 78 [If .i64 n] (If .u32 ((2 ^ 32 - 2 ^ (32 - clampN n) : Nat) : Int)) := by
  have hc := clampN_int n
  have hl := clampN_le n
  refine Meets.intro Try.func78 rfl (Nat.le_of_ble_eq_true rfl) fun C hC => ?_
  simp only [List.map, argEnv, Nat.reduceAdd]
  refine nK ?_
  refine s_reg rfl ?_
  refine Run.pure (dd := some 2) rfl rfl (op_assign rfl (Opd.const _)) ?_
  refine Run.nil (FinR.mk ?_)
  refine nK ?_
  refine s_reg rfl ?_
  refine Run.pure (dd := some 3) rfl rfl (op_move rfl (Opd.tmp _ _ rfl)) ?_
  refine Run.pure (dd := some 4) rfl rfl (op_call_pure (fun _ => clamp_any _ _) rfl (Opd.func _) (Opds.cons _ _ _ _ (Opd.tmp _ _ rfl) (Opds.cons _ _ _ _ (Opd.const _) Opds.nil))) ?_
  refine Run.pure (dd := some 5) rfl rfl (op_sub rfl (Opd.const _) (Opd.tmp _ _ rfl) tI) ?_
  refine Run.pure (dd := some 6) rfl rfl (castP (fun _ => mask_val n) (op_shlw (n := 32 - clampN n) rfl (Opd.const _) (Opd.tmp _ _ rfl) (by intro _; simp only [IntKind.bits]; omega))) ?_
  refine Run.pure (dd := some 2) rfl rfl (op_assign rfl (Opd.tmp _ _ rfl)) ?_
  refine Run.nil (FinR.mk ?_)
  refine nK ?_
  (first | exact s_o1 hC rfl tV | exact s_o2 hC rfl tV tV | exact s_o3 hC rfl tV tV tV | exact s_o4 hC rfl tV tV tV tV | exact s_out0 hC rfl | exact s_outO hC rfl rfl rfl)

theorem keep_any (x : Nat) (n : Int) (hx : x < 2 ^ 32) : Pure Try.prog 67 [If .u32 x, If .i64 n] (If .u32 (keepN x (clampN n))) := by
  have hc := clampN_int n
  have hl := clampN_le n
  have hk : ((x &&& (2 ^ 32 - 2 ^ (32 - clampN n)) : Nat) : Int) = (keepN x (clampN n) : Int) := by rw [land_high x _ (by omega) hx]; rfl
  have hle := keepN_le x (clampN n)
  have h0 : 0 < 2 ^ (32 - clampN n) := Nat.two_pow_pos _
  refine Meets.intro Try.func67 rfl (Nat.le_of_ble_eq_true rfl) fun C hC => ?_
  simp only [List.map, argEnv, Nat.reduceAdd]
  refine nK ?_
  refine s_reg rfl ?_
  refine Run.pure (dd := some 4) rfl rfl (op_assign rfl (Opd.const _)) ?_
  refine Run.nil (FinR.mk ?_)
  refine nK ?_
  refine s_reg rfl ?_
  refine Run.pure (dd := some 5) rfl rfl (op_move rfl (Opd.tmp _ _ rfl)) ?_
  refine Run.pure (dd := some 6) rfl rfl (op_move rfl (Opd.tmp _ _ rfl)) ?_
  refine Run.pure (dd := some 7) rfl rfl (op_call_pure (fun _ => mask_any _) rfl (Opd.func _) (Opds.cons _ _ _ _ (Opd.tmp _ _ rfl) Opds.nil)) ?_
  refine Run.pure (dd := some 8) rfl rfl (castP (fun _ => congrArg (IV .u32) hk) (op_bits rfl (Opd.tmp _ _ rfl) (Opd.tmp _ _ rfl) (.inl ⟨rfl, rfl⟩) (by intro _; simp only [IntKind.bits]; omega) (by intro _; simp only [inr, hk]; omega))) ?_
  refine Run.pure (dd := some 4) rfl rfl (op_assign rfl (Opd.tmp _ _ rfl)) ?_
  refine Run.nil (FinR.mk ?_)
  refine nK ?_
  (first | exact s_o1 hC rfl tV | exact s_o2 hC rfl tV tV | exact s_o3 hC rfl tV tV tV | exact s_o4 hC rfl tV tV tV tV | exact s_out0 hC rfl | exact s_outO hC rfl rfl rfl)


theorem valid_any (p : Pfx) (h : p.ok) : Pure Try.prog 51 [.agg (encP p)] (Bf (validB p)) := by
  obtain ⟨h1, h2⟩ := h
  refine Meets.intro Try.func51 rfl (Nat.le_of_ble_eq_true rfl) fun C hC => ?_
  simp only [List.map, argEnv, Nat.reduceAdd]
  refine nK ?_
  refine s_reg rfl ?_
  refine Run.eff (dd := some 1) rfl rfl (op_box_flat rfl (Opd.tmp _ _ rfl) tC rfl) ?_
  refine Run.pure (dd := some 2) rfl rfl (op_assign rfl (Opd.const _)) ?_
  refine Run.nil (FinR.mk ?_)
  refine nK ?_
  refine s_draw mixed ?_
  refine Run.pure (dd := some 3) rfl rfl (op_fld_ptr (by decide) rfl (Opd.tmp _ _ rfl)) ?_
  refine Run.load (dd := some 4) rfl rfl (op_load1_flat rfl (Opd.tmp _ _ rfl) tH rfl) ?_
  refine Run.pure (dd := some 5) rfl rfl (op_geq rfl (Opd.tmp _ _ rfl) (Opd.const _)) ?_
  refine Run.pure (dd := some 6) rfl rfl (op_move rfl (Opd.tmp _ _ rfl)) ?_
  refine Run.pureG (dd := some 7) rfl rfl rfl tG (op_fld_ptr (by decide) rfl (Opd.tmp _ _ rfl)) ?_
  refine Run.loadG (dd := some 8) rfl rfl rfl tG (op_load1_flat rfl (Opd.topt _ _ _ rfl tO) tH rfl) ?_
  refine Run.pureG (dd := some 9) rfl rfl rfl tG (op_leq rfl (Opd.topt _ _ _ rfl tO) (Opd.const _)) ?_
  refine Run.pure (dd := some 10) rfl rfl (op_pick_and rfl (Opd.tmp _ _ rfl) (Opd.topt _ _ _ rfl tO)) ?_
  refine Run.pure (dd := some 11) rfl rfl (op_move rfl (Opd.tmp _ _ rfl)) ?_
  refine Run.pureG (dd := some 12) rfl rfl rfl tG (op_fld_ptr (by decide) rfl (Opd.tmp _ _ rfl)) ?_
  refine Run.loadG (dd := some 13) rfl rfl rfl tG (op_load1_flat rfl (Opd.topt _ _ _ rfl tO) tH rfl) ?_
  refine Run.pureG (dd := some 14) rfl rfl rfl tG (op_fld_ptr (by decide) rfl (Opd.tmp _ _ rfl)) ?_
  refine Run.loadG (dd := some 15) rfl rfl rfl tG (op_load1_flat rfl (Opd.topt _ _ _ rfl tO) tH rfl) ?_
  refine Run.pureG (dd := some 16) rfl rfl rfl tG (op_call_pure (fun _ => keep_any _ _ (by omega)) rfl (Opd.func _) (Opds.cons _ _ _ _ (Opd.topt _ _ _ rfl tO) (Opds.cons _ _ _ _ (Opd.topt _ _ _ rfl tO) Opds.nil))) ?_
  refine Run.pureG (dd := some 17) rfl rfl rfl tG (op_fld_ptr (by decide) rfl (Opd.tmp _ _ rfl)) ?_
  refine Run.loadG (dd := some 18) rfl rfl rfl tG (op_load1_flat rfl (Opd.topt _ _ _ rfl tO) tH rfl) ?_
  refine Run.pureG (dd := some 19) rfl rfl rfl tG (op_eql rfl (Opd.topt _ _ _ rfl tO) (Opd.topt _ _ _ rfl tO)) ?_
  refine Run.pure (dd := some 20) rfl rfl (op_pick_and rfl (Opd.tmp _ _ rfl) (Opd.topt _ _ _ rfl tO)) ?_
  refine Run.pure (dd := some 2) rfl rfl (op_assign rfl (Opd.tmp _ _ rfl)) ?_
  refine Run.nil (FinD.mk (by kernel_rfl) ?_)
  refine nK ?_
  (first | exact s_o1 hC rfl tV | exact s_o2 hC rfl tV tV | exact s_o3 hC rfl tV tV tV | exact s_o4 hC rfl tV tV tV tV | exact s_out0 hC rfl | exact s_outO hC rfl rfl rfl)
theorem low_any (n most : Int) : Pure Try.prog 81 [If .i64 n, If .i64 most] (If .i64 (min (max n 0) most)) := by
  refine Meets.intro Try.func81 rfl (Nat.le_of_ble_eq_true rfl) fun C hC => ?_
  simp only [List.map, argEnv, Nat.reduceAdd]
  refine nK ?_
  refine s_reg rfl ?_
  refine Run.pure (dd := some 4) rfl rfl (op_assign rfl (Opd.const _)) ?_
  refine Run.nil (FinR.mk ?_)
  refine nK ?_
  refine s_reg rfl ?_
  refine Run.pure (dd := some 5) rfl rfl (op_move rfl (Opd.tmp _ _ rfl)) ?_
  refine Run.pure (dd := some 6) rfl rfl (op_max rfl (Opd.tmp _ _ rfl) (Opd.const _)) ?_
  refine Run.pure (dd := some 7) rfl rfl (op_move rfl (Opd.tmp _ _ rfl)) ?_
  refine Run.pure (dd := some 8) rfl rfl (op_min rfl (Opd.tmp _ _ rfl) (Opd.tmp _ _ rfl)) ?_
  refine Run.pure (dd := some 4) rfl rfl (op_assign rfl (Opd.tmp _ _ rfl)) ?_
  refine Run.nil (FinR.mk ?_)
  refine nK ?_
  (first | exact s_o1 hC rfl tV | exact s_o2 hC rfl tV tV | exact s_o3 hC rfl tV tV tV | exact s_o4 hC rfl tV tV tV tV | exact s_out0 hC rfl | exact s_outO hC rfl rfl rfl)
theorem low32_any (n : Int) : Pure Try.prog 81 [If .i64 n, If .i64 32] (If .i64 (clampN n)) := by
  rw [← clampN_int]; exact low_any n 32

theorem at_any (x i : Nat) (hx : x < 2 ^ 32) (hi : i < 32) : Pure Try.prog 82 [If .u32 x, If .i64 i] (If .i64 ((x / 2 ^ (31 - i) % 2 : Nat) : Int)) := by
  have hd : x / 2 ^ (31 - i) ≤ x := Nat.div_le_self _ _
  have hm : x / 2 ^ (31 - i) % 2 < 2 := Nat.mod_lt _ (by omega)
  refine Meets.intro Try.func82 rfl (Nat.le_of_ble_eq_true rfl) fun C hC => ?_
  simp only [List.map, argEnv, Nat.reduceAdd]
  refine nK ?_
  refine s_reg rfl ?_
  refine Run.pure (dd := some 4) rfl rfl (op_assign rfl (Opd.const _)) ?_
  refine Run.nil (FinR.mk ?_)
  refine nK ?_
  refine s_reg rfl ?_
  refine Run.pure (dd := some 5) rfl rfl (op_move rfl (Opd.tmp _ _ rfl)) ?_
  refine Run.pure (dd := some 6) rfl rfl (op_lss rfl (Opd.tmp _ _ rfl) (Opd.const _)) ?_
  refine Run.pure (dd := some 7) rfl rfl (op_move rfl (Opd.tmp _ _ rfl)) ?_
  refine Run.pureG (dd := some 8) rfl rfl rfl tG (op_move rfl (Opd.tmp _ _ rfl)) ?_
  refine Run.pureG (dd := some 9) rfl rfl rfl tG (op_gtr rfl (Opd.topt _ _ _ rfl tO) (Opd.const _)) ?_
  refine Run.pure (dd := some 10) rfl rfl (op_pick_or rfl (Opd.tmp _ _ rfl) (Opd.topt _ _ _ rfl tO)) ?_
  refine Run.nil (FinR.mk ?_)
  refine nK ?_
  refine n_cond _ rfl (fun hb => ?_) (fun hb => ?_)
  · exfalso; simp at hb; omega
  refine nK ?_
  refine s_reg rfl ?_
  refine Run.pure (dd := some 11) rfl rfl (op_move rfl (Opd.tmp _ _ rfl)) ?_
  refine Run.pure (dd := some 12) rfl rfl (op_move rfl (Opd.tmp _ _ rfl)) ?_
  refine Run.pure (dd := some 13) rfl rfl (op_sub rfl (Opd.const _) (Opd.tmp _ _ rfl) tI) ?_
  refine Run.pure (dd := some 14) rfl rfl (op_conv rfl (Opd.tmp _ _ rfl) tI) ?_
  refine Run.pure (dd := some 15) rfl rfl (op_shrN (31 - i) rfl (Opd.tmp _ _ rfl) (Opd.tmp _ _ rfl) (by intro _; simp only [IntKind.bits]; omega)) ?_
  refine Run.pure (dd := some 16) rfl rfl (op_and1 rfl (Opd.tmp _ _ rfl) (Opd.const _) (by intro _; simp only [IntKind.bits]; omega) (by simp [IntKind.bits])) ?_
  refine Run.pure (dd := some 17) rfl rfl (op_conv rfl (Opd.tmp _ _ rfl) tI) ?_
  refine Run.pure (dd := some 4) rfl rfl (op_assign rfl (Opd.tmp _ _ rfl)) ?_
  refine Run.nil (FinR.mk ?_)
  refine nK ?_
  (first | exact s_o1 hC rfl tV | exact s_o2 hC rfl tV tV | exact s_o3 hC rfl tV tV tV | exact s_o4 hC rfl tV tV tV tV | exact s_out0 hC rfl | exact s_outO hC rfl rfl rfl)

theorem rkeep_any (x : Nat) (n : Int) (hx : x < 2 ^ 32) : Pure Try.prog 72 [If .u32 x, If .i64 n] (If .u32 (keepN x (clampN n))) := by
  have hl := clampN_le n
  refine Meets.intro Try.func72 rfl (Nat.le_of_ble_eq_true rfl) fun C hC => ?_
  simp only [List.map, argEnv, Nat.reduceAdd]
  refine nK ?_
  refine s_reg rfl ?_
  refine Run.pure (dd := some 4) rfl rfl (op_assign rfl (Opd.const _)) ?_
  refine Run.nil (FinR.mk ?_)
  refine nK ?_
  refine s_reg rfl ?_
  refine Run.pure (dd := some 5) rfl rfl (op_assign rfl (Opd.const _)) ?_
  refine Run.nil (FinR.mk ?_)
  refine nK ?_
  refine s_reg rfl ?_
  refine Run.pure (dd := some 7) rfl rfl (op_move rfl (Opd.tmp _ _ rfl)) ?_
  refine Run.pure (dd := some 8) rfl rfl (op_call_pure (fun _ => low32_any _) rfl (Opd.func _) (Opds.cons _ _ _ _ (Opd.tmp _ _ rfl) (Opds.cons _ _ _ _ (Opd.const _) Opds.nil))) ?_
  refine Run.pure (dd := some 9) rfl rfl (op_move rfl (Opd.const _)) ?_
  refine Run.nil (FinR.mk ?_)
  refine nK ?_
  refine n_loop (ι := Nat) (fun i => ([(0, IV .u32 x), (5, IV .u32 (keepN x i)), (8, IV .i64 (clampN n)), (9, IV .i64 i)], [], 0)) (fun i => i ≤ clampN n) (fun i => clampN n - i) 0 (Nat.zero_le _) ?_ ?_
  · have h0 := keep_zero x hx
    rw [h0]
    refine Next.weak [] [] (by rfl) (keeps0 hC _) (by repeat (first | exact trivial | refine ⟨⟨_, rfl, .inl ⟨rfl, rfl⟩⟩, ?_⟩)) (by repeat (first | exact trivial | refine ⟨ent_same rfl rfl rfl tL, ?_⟩ | refine ⟨ent_same rfl rfl (rfEq rfl tU) tL, ?_⟩ | refine ⟨ent_same rfl rfl (flEq rfl (by first | (simp; done) | (simp; omega) | (simp [encP]; done) | simp [maxC, minC])) trivial, ?_⟩)) (fun _ h => by simp at h) rel_intro
  · intro i hi K hK
    refine nK ?_
    refine s_reg rfl ?_
    refine Run.pure (dd := some 10) rfl rfl (op_lss rfl (Opd.tmp _ _ rfl) (Opd.tmp _ _ rfl)) ?_
    refine Run.nil (FinR.mk ?_)
    refine nK ?_
    refine n_cond _ rfl (fun hb => ?_) (fun hb => ?_)
    · have hlt : i < clampN n := by simp at hb; omega
      have hk := keep_succ x i (by omega)
      have hle := keepN_le x i
      have hle2 := keepN_le x (i + 1)
      have hm : x / 2 ^ (31 - i) % 2 < 2 := Nat.mod_lt _ (by omega)
      have hp : 2 ^ (31 - i) ≤ 2 ^ 31 := Nat.pow_le_pow_right (by omega) (by omega)
      have hmul : x / 2 ^ (31 - i) % 2 * 2 ^ (31 - i) ≤ 1 * 2 ^ 31 := Nat.mul_le_mul (by omega) hp
      refine nK ?_
      refine s_reg rfl ?_
      refine Run.pure (dd := some 11) rfl rfl (op_move rfl (Opd.tmp _ _ rfl)) ?_
      refine Run.pure (dd := some 6) rfl rfl (op_assign rfl (Opd.tmp _ _ rfl)) ?_
      refine Run.nil (FinR.mk ?_)
      refine nK ?_
      refine s_reg rfl ?_
      refine Run.pure (dd := some 12) rfl rfl (op_move rfl (Opd.tmp _ _ rfl)) ?_
      refine Run.pure (dd := some 13) rfl rfl (op_move rfl (Opd.tmp _ _ rfl)) ?_
      refine Run.pure (dd := some 14) rfl rfl (op_move rfl (Opd.tmp _ _ rfl)) ?_
      refine Run.pure (dd := some 15) rfl rfl (op_call_pure (fun _ => at_any _ _ (by omega) (by omega)) rfl (Opd.func _) (Opds.cons _ _ _ _ (Opd.tmp _ _ rfl) (Opds.cons _ _ _ _ (Opd.tmp _ _ rfl) Opds.nil))) ?_
      refine Run.pure (dd := some 16) rfl rfl (op_conv rfl (Opd.tmp _ _ rfl) tI) ?_
      refine Run.pure (dd := some 17) rfl rfl (op_move rfl (Opd.tmp _ _ rfl)) ?_
      refine Run.pure (dd := some 18) rfl rfl (op_sub rfl (Opd.const _) (Opd.tmp _ _ rfl) tI) ?_
      refine Run.pure (dd := some 19) rfl rfl (op_conv rfl (Opd.tmp _ _ rfl) tI) ?_
      refine Run.pure (dd := some 20) rfl rfl (op_shlN (31 - i) rfl (Opd.tmp _ _ rfl) (Opd.tmp _ _ rfl) (by intro _; simp only [IntKind.bits, inr]; omega)) ?_
      refine Run.pure (dd := some 21) rfl rfl (castP (fun _ => congrArg (fun z : Nat => IV .u32 z) hk) (op_bits rfl (Opd.tmp _ _ rfl) (Opd.tmp _ _ rfl) (.inr (.inl ⟨rfl, rfl⟩)) (by intro _; simp only [IntKind.bits]; omega) (by intro _; simp only [inr, hk]; omega))) ?_
      refine Run.pure (dd := some 5) rfl rfl (op_assign rfl (Opd.tmp _ _ rfl)) ?_
      refine Run.nil (FinR.mk ?_)
      refine nK ?_
      refine s_reg rfl ?_
      refine Run.pure (dd := some 22) rfl rfl (op_add rfl (Opd.tmp _ _ rfl) (Opd.const _) tI) ?_
      refine Run.pure (dd := some 9) rfl rfl (op_move rfl (Opd.tmp _ _ rfl)) ?_
      refine Run.nil (FinR.mk ?_)
      refine nK ?_
      refine Next.weak [] [] (by rfl) (keeps0 hC _) (by repeat (first | exact trivial | refine ⟨⟨_, rfl, .inl ⟨rfl, rfl⟩⟩, ?_⟩)) (by repeat (first | exact trivial | refine ⟨ent_same rfl rfl rfl tL, ?_⟩ | refine ⟨ent_same rfl rfl (rfEq rfl tU) tL, ?_⟩ | refine ⟨ent_same rfl rfl (flEq rfl (by first | (simp; done) | (simp; omega) | (simp [encP]; done) | simp [maxC, minC])) trivial, ?_⟩)) (fun _ h => by simp at h) (hK (i + 1) (by omega) (by omega))
    · have he : i = clampN n := by simp at hb; omega
      subst he
      refine nK ?_
      refine s_reg rfl ?_
      refine Run.pure (dd := some 23) rfl rfl (op_move rfl (Opd.tmp _ _ rfl)) ?_
      refine Run.pure (dd := some 4) rfl rfl (op_assign rfl (Opd.tmp _ _ rfl)) ?_
      refine Run.nil (FinR.mk ?_)
      refine nK ?_
      (first | exact s_o1 hC rfl tV | exact s_o2 hC rfl tV tV | exact s_o3 hC rfl tV tV tV | exact s_o4 hC rfl tV tV tV tV | exact s_out0 hC rfl | exact s_outO hC rfl rfl rfl)
theorem rvalid_any (p : Pfx) (h : p.ok) : Pure Try.prog 57 [.agg (encP p)] (Bf (validB p)) := by
  obtain ⟨h1, h2⟩ := h
  refine Meets.intro Try.func57 rfl (Nat.le_of_ble_eq_true rfl) fun C hC => ?_
  simp only [List.map, argEnv, Nat.reduceAdd]
  refine nK ?_
  refine s_reg rfl ?_
  refine Run.eff (dd := some 1) rfl rfl (op_box_flat rfl (Opd.tmp _ _ rfl) tC rfl) ?_
  refine Run.pure (dd := some 2) rfl rfl (op_assign rfl (Opd.const _)) ?_
  refine Run.nil (FinR.mk ?_)
  refine nK ?_
  refine s_draw mixed ?_
  refine Run.pure (dd := some 3) rfl rfl (op_fld_ptr (by decide) rfl (Opd.tmp _ _ rfl)) ?_
  refine Run.load (dd := some 4) rfl rfl (op_load1_flat rfl (Opd.tmp _ _ rfl) tH rfl) ?_
  refine Run.pure (dd := some 5) rfl rfl (op_geq rfl (Opd.tmp _ _ rfl) (Opd.const _)) ?_
  refine Run.pure (dd := some 6) rfl rfl (op_move rfl (Opd.tmp _ _ rfl)) ?_
  refine Run.pureG (dd := some 7) rfl rfl rfl tG (op_fld_ptr (by decide) rfl (Opd.tmp _ _ rfl)) ?_
  refine Run.loadG (dd := some 8) rfl rfl rfl tG (op_load1_flat rfl (Opd.topt _ _ _ rfl tO) tH rfl) ?_
  refine Run.pureG (dd := some 9) rfl rfl rfl tG (op_leq rfl (Opd.topt _ _ _ rfl tO) (Opd.const _)) ?_
  refine Run.pure (dd := some 10) rfl rfl (op_pick_and rfl (Opd.tmp _ _ rfl) (Opd.topt _ _ _ rfl tO)) ?_
  refine Run.pure (dd := some 11) rfl rfl (op_move rfl (Opd.tmp _ _ rfl)) ?_
  refine Run.pureG (dd := some 12) rfl rfl rfl tG (op_fld_ptr (by decide) rfl (Opd.tmp _ _ rfl)) ?_
  refine Run.loadG (dd := some 13) rfl rfl rfl tG (op_load1_flat rfl (Opd.topt _ _ _ rfl tO) tH rfl) ?_
  refine Run.pureG (dd := some 14) rfl rfl rfl tG (op_fld_ptr (by decide) rfl (Opd.tmp _ _ rfl)) ?_
  refine Run.loadG (dd := some 15) rfl rfl rfl tG (op_load1_flat rfl (Opd.topt _ _ _ rfl tO) tH rfl) ?_
  refine Run.pureG (dd := some 16) rfl rfl rfl tG (op_call_pure (fun _ => rkeep_any _ _ (by omega)) rfl (Opd.func _) (Opds.cons _ _ _ _ (Opd.topt _ _ _ rfl tO) (Opds.cons _ _ _ _ (Opd.topt _ _ _ rfl tO) Opds.nil))) ?_
  refine Run.pureG (dd := some 17) rfl rfl rfl tG (op_fld_ptr (by decide) rfl (Opd.tmp _ _ rfl)) ?_
  refine Run.loadG (dd := some 18) rfl rfl rfl tG (op_load1_flat rfl (Opd.topt _ _ _ rfl tO) tH rfl) ?_
  refine Run.pureG (dd := some 19) rfl rfl rfl tG (op_eql rfl (Opd.topt _ _ _ rfl tO) (Opd.topt _ _ _ rfl tO)) ?_
  refine Run.pure (dd := some 20) rfl rfl (op_pick_and rfl (Opd.tmp _ _ rfl) (Opd.topt _ _ _ rfl tO)) ?_
  refine Run.pure (dd := some 2) rfl rfl (op_assign rfl (Opd.tmp _ _ rfl)) ?_
  refine Run.nil (FinD.mk (by kernel_rfl) ?_)
  refine nK ?_
  (first | exact s_o1 hC rfl tV | exact s_o2 hC rfl tV tV | exact s_o3 hC rfl tV tV tV | exact s_o4 hC rfl tV tV tV tV | exact s_out0 hC rfl | exact s_outO hC rfl rfl rfl)
open Go Go.RT Go.Proofs Go.Pl
set_option maxRecDepth 20000
abbrev jmp (v : Int) : Option Code := if v = 0 then none else some .ret
abbrev ORec (rc : Loop) : Option Ob := some (.raw (.loop rc))
abbrev OCell (v : Int) : Option Ob := some (.flat 1 [[If .i64 v]])
/-- what a round of rib.first makes of a number -/
abbrev RdF (rc : Loop) (tps : List PV) : Prop := ∀ v, MeetsD (DY Try.prog) [.yl 0 rc.tmps tps, .fz (If .i64 v)] 2 [(0, ORec rc), (1, OCell 0)] (.fz (Bf (decide (v = 0)))) [(0, ORec (endR rc (jmp v))), (1, OCell v)] 2
theorem jmp_none (v : Int) : (jmp v).isNone = decide (v = 0) := by unfold jmp; by_cases h : v = 0 <;> simp [h]
theorem first_c {f : FuncId} [FnB Try.prog f] (caps : List FV) (r : Int)
    (hIt : ∀ (rc : Loop) (tps : List PV), rc.state = .ready → rc.pending = none → ltPs 2 tps = true → renPs [0, 1] tps = tps → RdF rc tps → Meets Try.prog f (.yl 0 rc.tmps tps :: caps.map PV.fz) 2 [(0, ORec rc), (1, OCell 0)] (.fz (.tup [])) [(0, ORec (endR rc (jmp r))), (1, OCell r)] 2) :
    Pure Try.prog 53 [.clo f caps] (If .i64 r) := by
  refine Meets.introM Try.func53 rfl (Nat.le_of_ble_eq_true rfl) fun C hC hdf => ?_
  simp only [List.map, argEnv, Nat.reduceAdd]
  refine nK ?_
  refine s_reg rfl ?_
  refine Run.eff (dd := some 2) rfl rfl (op_alloc rfl rfl rfl rfl) ?_
  refine Run.nil (FinR.mk ?_)
  refine nK ?_
  refine s_reg rfl ?_
  refine Run.pure (dd := some 4) rfl rfl (op_move rfl (Opd.tmp _ _ rfl)) ?_
  refine Run.nil (FinR.mk ?_)
  refine nK ?_
  refine n_range (f := f) (caps := caps.map PV.fz) (capsI := caps.map PV.fz) (tps := [.fz (.clo f caps), .any, .ptr 1 1 0 0, .any, .fz (.clo f caps), .any, .any, .any, .any]) (n := 2) (n' := 2) (r0 := 0) (Hin := fun rc => [(0, ORec rc), (1, OCell 0)]) (Hm := [(1, OCell r)]) (res := .fz (.tup [])) [2, 0] (jmp r) (fun rc h1 h2 h3 h4 h5 h6 => hIt rc _ h1 h2 rfl rfl fun v => ?_) (.fz caps rfl) rfl rfl (by simp [renP]) rfl rfl (by simp [ltP]) (fun rc => Lent.of rfl rfl (by repeat (first | exact trivial | refine ⟨⟨rfl, rfl, rfl, tL⟩, ?_⟩)) rfl) rfl rfl rfl rfl rfl (fun C' D hA => ?_)
  · have hw := round_meets (P := Try.prog) (rc := rc) (r := 0) (n := 2) (n' := 2) (N := 9) (p := 5) (tps := [.fz (.clo f caps), .any, .ptr 1 1 0 0, .any, .fz (.clo f caps), .any, .any, .any, .any]) (x := .fz (If .i64 v)) (Hin := [(0, ORec rc), (1, OCell 0)]) (Hm := [(0, ORec { rc with state := .busy }), (1, OCell v)]) (j := jmp v) h4 h5 h1 h3 (by decide) rfl rfl rfl (fun C l hC hl => by
      simp only [argEnv, Nat.reduceAdd]
      refine nK ?_
      refine s_reg rfl ?_
      refine Run.pure (dd := some 3) rfl rfl (op_assign rfl (Opd.tmp _ _ rfl)) ?_
      refine Run.nil (FinR.mk ?_)
      refine nK ?_
      refine s_begin hl rfl h1 ?_
      refine nK ?_
      refine s_reg rfl ?_
      refine Run.pure (dd := some 6) rfl rfl (op_move rfl (Opd.tmp _ _ rfl)) ?_
      refine Run.pure (dd := some 7) rfl rfl (op_neq rfl (Opd.tmp _ _ rfl) (Opd.const _)) ?_
      refine Run.nil (FinR.mk ?_)
      refine nK ?_
      refine n_cond _ rfl (fun hb => ?_) (fun hb => ?_)
      · have hv : v ≠ 0 := by simpa using hb
        refine nK ?_
        refine s_reg rfl ?_
        refine Run.pure (dd := some 8) rfl rfl (op_move rfl (Opd.tmp _ _ rfl)) ?_
        refine Run.eff (dd := none) rfl rfl (op_store_flat rfl (Opd.tmp _ _ rfl) (Opd.tmp _ _ rfl) tC rfl rfl (by first | rfl | assumption) tS) ?_
        refine Run.nil (FinR.mk ?_)
        refine nK ?_
        refine Next.weak [0, 1] [] (by rfl) (keepsN hC _ rfl) (G' := []) (H' := [(0, ORec { rc with state := .busy }), (1, OCell v)]) trivial (by exact ⟨ent_same rfl rfl rfl tL, ⟨ent_same rfl rfl rfl tL, trivial⟩⟩) (fun _ h => by simp at h) (s_rout (e := .ret) (j := jmp v) (by simp [exJ, jmp, hv]))
      · have hv : v = 0 := by simpa using hb
        refine nK ?_
        subst hv
        refine Next.weak [0, 1] [] (by rfl) (keepsN hC _ rfl) (G' := []) (H' := [(0, ORec { rc with state := .busy }), (1, OCell 0)]) trivial (by exact ⟨ent_same rfl rfl rfl tL, ⟨ent_same rfl rfl rfl tL, trivial⟩⟩) (fun _ h => by simp at h) (s_rout (e := .normal) (j := jmp 0) (by simp [exJ, jmp])))
    show MeetsD _ _ _ _ (.fz (Bf (decide (v = 0)))) _ _
    rw [← jmp_none v]
    refine hw.keepH DY.mono fun i o h => ?_
    simp only [hlook_cons] at h ⊢
    by_cases e0 : 0 = i
    · simpa [e0, endR] using h
    · simpa [e0] using h
  · by_cases hr : r = 0
    · subst hr
      refine nK ?_
      refine s_reg rfl ?_
      refine Run.eff (dd := none) rfl rfl (op_store_flat rfl (Opd.tmp _ _ rfl) (Opd.const _) tC rfl rfl (by first | rfl | assumption) tS) ?_
      refine Run.nil (FinR.mk ?_)
      refine nK ?_
      refine s_tail hA hdf ?_
      (first | exact s_o1 hC rfl tV | exact s_o2 hC rfl tV tV | exact s_o3 hC rfl tV tV tV | exact s_o4 hC rfl tV tV tV tV | exact s_out0 hC rfl | exact s_outO hC rfl rfl rfl)
    · have hj : jmp r = some .ret := by simp [jmp, hr]
      rw [hj]
      show RT.Next C' _ _ _ _ (Code.ret.wpM none _ _)
      refine nK ?_
      refine s_tail hA hdf ?_
      (first | exact s_o1 hC rfl tV | exact s_o2 hC rfl tV tV | exact s_o3 hC rfl tV tV tV | exact s_o4 hC rfl tV tV tV tV | exact s_out0 hC rfl | exact s_outO hC rfl rfl rfl)
end Go.Proofs.Ytinddhlmgiahiaa
/- Lists of edges and numbers: what the reference's loops compute. -/
namespace Go.Pl
open Go.RT
set_option linter.all false
end Go.Pl
/- Runs of equal elements cut to one. -/
namespace Go.Pl
set_option linter.all false
def ddF {α : Type} (eq : α → α → Bool) : α → List α → List α
  | _, [] => []
  | p, x :: l => bif eq x p then ddF eq x l else x :: ddF eq x l
def compL {α : Type} (eq : α → α → Bool) : List α → List α
  | [] => []
  | x :: l => x :: ddF eq x l
def lastD {α : Type} : α → List α → α
  | p, [] => p
  | _, x :: l => lastD x l
theorem ddF_snoc {α : Type} (eq : α → α → Bool) (y : α) : ∀ (l : List α) (p : α), ddF eq p (l ++ [y]) = ddF eq p l ++ bif eq y (lastD p l) then [] else [y]
  | [], p => by simp [ddF, lastD]
  | x :: l, p => by
    simp only [List.cons_append, ddF, lastD, ddF_snoc eq y l x]
    cases eq x p <;> simp
theorem lastD_get {α : Type} : ∀ (l : List α) (p : α) , (p :: l)[l.length]? = some (lastD p l)
  | [], p => rfl
  | x :: l, p => by simpa [lastD] using lastD_get l x
theorem ddF_len {α : Type} (eq : α → α → Bool) : ∀ (l : List α) (p : α), (ddF eq p l).length ≤ l.length
  | [], _ => by simp [ddF]
  | x :: l, p => by
    have := ddF_len eq l x
    simp only [ddF, List.length_cons]; cases eq x p <;> simp <;> omega
theorem compL_len {α : Type} (eq : α → α → Bool) (l : List α) : (compL eq l).length ≤ l.length := by
  cases l with
  | nil => simp [compL]
  | cons x l => have := ddF_len eq l x; simp [compL]; omega
/-- one element more -/
theorem compL_take {α : Type} (eq : α → α → Bool) (l : List α) (n : Nat) (h0 : 0 < n) (h : n < l.length) : compL eq (l.take (n + 1)) = compL eq (l.take n) ++ bif eq l[n] l[n - 1] then [] else [l[n]] := by
  cases l with
  | nil => simp at h
  | cons x l =>
    obtain ⟨m, rfl⟩ : ∃ m, n = m + 1 := ⟨n - 1, by omega⟩
    have hm : m < l.length := by simpa using h
    rw [List.take_succ_cons, List.take_succ_cons]
    simp only [compL]
    rw [List.take_succ_eq_append_getElem hm, ddF_snoc]
    have hl : lastD x (l.take m) = (x :: l)[m]'(by simp; omega) := by
      have h1 := lastD_get (l.take m) x
      have e : (l.take m).length = m := by simp; omega
      rw [e, ← List.take_succ_cons, List.getElem?_take, if_pos (by omega), List.getElem?_eq_getElem (by simp; omega)] at h1
      exact (Option.some.inj h1).symm
    rw [hl]
    simp
theorem compL_len_lt {α : Type} (eq : α → α → Bool) (l : List α) (n : Nat) (h0 : 0 < n) (h : n < l.length) (he : eq l[n] l[n - 1] = true) (j : Nat) (hj : n < j) (hjl : j ≤ l.length) : (compL eq (l.take j)).length < j := by
  obtain ⟨d, rfl⟩ : ∃ d, j = n + 1 + d := ⟨j - (n + 1), by omega⟩
  clear hj
  induction d with
  | zero =>
    rw [Nat.add_zero, compL_take eq l n h0 h, he, cond_true, List.append_nil]
    have := compL_len eq (l.take n)
    simp at this; omega
  | succ d ih =>
    have := ih (by omega)
    rw [← Nat.add_assoc, compL_take eq l (n + 1 + d) (by omega) (by omega), List.length_append]
    cases eq l[n + 1 + d] l[n + 1 + d - 1] <;> simp <;> omega
theorem compL_one {α : Type} (eq : α → α → Bool) (l : List α) (h : 0 < l.length) : compL eq (l.take 1) = l.take 1 := by
  cases l with
  | nil => simp at h
  | cons x l => simp [compL, ddF]
/-- writing at the end of what is kept -/
theorem set_kept {α : Type} (c l : List α) (x : α) (h : c.length < l.length) : (c ++ l.drop c.length).set c.length x = (c ++ [x]) ++ l.drop (c ++ [x]).length := by
  have e := List.drop_eq_getElem_cons h
  rw [List.set_append, if_neg (by omega), Nat.sub_self, e, List.set_cons_zero]
  simp
theorem kept_get {α : Type} (c l : List α) (j : Nat) (h : c.length ≤ j) : (c ++ l.drop c.length)[j]? = l[j]? := by
  rw [List.getElem?_append, if_neg (by omega), List.getElem?_drop]; congr 1; omega
theorem kept_len {α : Type} (c l : List α) (h : c.length ≤ l.length) : (c ++ l.drop c.length).length = l.length := by simp; omega
end Go.Pl
/- The kit's contract of slices.SortFunc, turned into one of the engine's. -/
namespace Go.RT
open Go Go.Proofs Go.Sort Go.Shelf
set_option linter.all false
theorem Mem.reheap {C : Cx} {H H' : Hp} {nx : Nat} {S : Nat → Prop} {m : Ids} {w : World} (k1 : Mem C H nx S m w) (hh : ∀ id, hlook H' id = hlook H id) : Mem C H' nx S m w :=
  ⟨k1.os, k1.tape, k1.output, k1.fz, k1.size, k1.frame, k1.le, k1.sub, k1.n0, fun id o h => k1.objs id o ((hh id).symm.trans h), fun id o b h => k1.blk id o b ((hh id).symm.trans h), fun a b o1 o2 bb h1 h2 => k1.inj a b o1 o2 bb ((hh a).symm.trans h1) ((hh b).symm.trans h2), k1.stab, k1.fresh, k1.nkeep (Le.refl _ _ _) (Nat.le_refl _) (fun _ _ _ _ _ _ h => h.of fun o h => (hh _).symm.trans h) (fun _ _ _ _ _ _ _ c e _ _ _ k2 k3 => ⟨c, e, k2, k3⟩) (fun b' _ h2 h3 => ⟨rfl, h2, fun id2 o2 h => h3 _ _ ((hh id2).symm.trans h)⟩)⟩
def grown (w : World) (os : Array Obj) (q : Nat) : World := { w with heap := w.heap ++ os, drawn := w.drawn + q }
theorem grown_old (w : World) (os : Array Obj) (q : Nat) {b : Nat} (hb : b < w.heap.size) : (grown w os q).heap[b]? = w.heap[b]? := by simp [grown, Array.getElem?_append, hb]
theorem Mem.grow {C : Cx} {H : Hp} {nx : Nat} {S : Nat → Prop} {m : Ids} {w : World} (hm : Mem C H nx S m w) (os : Array Obj) (q : Nat) : Mem C H nx S m (grown w os q) ∧ Le S m w S m (grown w os q) := by
  have hsz : w.heap.size ≤ (grown w os q).heap.size := by simp [grown]
  have hle : Le S m w S m (grown w os q) := by
    refine ⟨fun _ h => h, fun b hb => grown_old w os q (hm.stab b hb), fun _ _ h => h, fun b n ⟨c, e, fr, h1, h2⟩ => ⟨c, e, fr, ?_, h2⟩⟩
    rw [grown_old w os q (Array.getElem?_eq_some_iff.1 h1).1]; exact h1
  refine ⟨hm.step hle ⟨rfl, Nat.le_add_right _ _⟩ rfl rfl (fun a ha => ?_) hsz (fun b hb _ => grown_old w os q (Nat.lt_of_lt_of_le hb hm.size)) (fun b hb => .inl hb) (fun id o ho => (hm.objs id o ho).mono hle fun b hb => grown_old w os q (hm.blk id o b ho hb).2.1)
    (fun id o b ho hb => ?_) hm.inj (fun b hb => Nat.lt_of_lt_of_le (hm.stab b hb) hsz) hm.fresh (hm.nkeep hle hsz (fun _ _ _ _ _ _ h => h) (fun id sz i j isz irows b2 c2 e2 u _ _ q2 q3 => ⟨c2, e2, (grown_old w os q (Array.getElem?_eq_some_iff.1 q2).1).trans q2, q3⟩) (fun b' h1 h2 h3 => ⟨grown_old w os q h1, h2, h3⟩)), hle⟩
  · simp only [World.frozen?, grown_old w os q ha]
  · obtain ⟨h1, h2, h3⟩ := hm.blk id o b ho hb
    exact ⟨h1, Nat.lt_of_lt_of_le h2 hsz, h3⟩
theorem mapBlock_setRow {w : World} {b : Nat} {c : Array Value} {e : TypeId} {fr : Nat × Nat} (f : Array Value → Array Value) (hc : w.heap[b]? = some (.cells c e fr)) : mapBlock w b f = w.setRow b (f c) := by
  unfold mapBlock World.setRow
  congr 1
  apply Array.ext_getElem?
  intro i
  simp only [Array.getElem?_modify]
  by_cases h : b = i
  · subst h
    simp [hc, onCells]
  · simp [h]
/-- a run that owns nothing: what it leaves is the world it found, grown -/
theorem Mem.is_grown {C : Cx} {nx : Nat} {S : Nat → Prop} {m : Ids} {w : World} (hm : Mem C [] nx S m w) (ho : ∀ b, ¬ C.own0 b) : ∃ q os, w = grown C.w0 os q := by
  refine ⟨w.drawn - C.w0.drawn, w.heap.extract C.w0.heap.size w.heap.size, ?_⟩
  have h1 : w.heap = C.w0.heap ++ w.heap.extract C.w0.heap.size w.heap.size := by
    apply Array.ext_getElem?
    intro i
    by_cases hi : i < C.w0.heap.size
    · rw [Array.getElem?_append_left hi]; exact hm.frame i hi (ho i)
    · rw [Array.getElem?_append_right (by omega), Array.getElem?_extract]
      have := hm.size
      by_cases h2 : i < w.heap.size
      · rw [if_pos (by simp; omega)]; congr 1; omega
      · rw [if_neg (by simp; omega)]; exact Array.getElem?_eq_none (by omega)
  have h2 : w.drawn = C.w0.drawn + (w.drawn - C.w0.drawn) := by have := hm.os.2; omega
  obtain ⟨heap, tape, drawn, os, output⟩ := w
  unfold grown
  simp only at h1 h2
  have e1 := hm.tape; have e2 := hm.os.1; have e3 := hm.output
  simp only at e1 e2 e3
  subst e1 e2 e3
  simp only [World.mk.injEq, true_and, and_true]
  exact ⟨h1, h2⟩
/-- what slices.SortFunc leaves -/
def sortBy {β : Type} [Inhabited β] (cf : β → β → Int) (l : List β) : List β := (pdq (ltOf cf) l.toArray 0 l.length (Lib.bitLen l.length) true true).toList
theorem sortBy_spec {β : Type} [Inhabited β] (cf : β → β → Int) (hO : SWO (ltOf cf)) (l : List β) : (sortBy cf l).Perm l ∧ (sortBy cf l).length = l.length ∧ ∀ (i j : Nat) (x y : β), i < j → (sortBy cf l)[i]? = some x → (sortBy cf l)[j]? = some y → ¬ cf y x < 0 := by
  have h := pdq_sorts (ltOf cf) hO l.toArray 0 l.length (Lib.bitLen l.length) true true (Nat.zero_le _) (by simp) (Or.inl rfl)
  obtain ⟨⟨p1, p2, p3⟩, p4⟩ := h
  have e : (sortBy cf l).length = l.length := by simpa [sortBy] using p1
  refine ⟨?_, e, fun i j x y hij hx hy => ?_⟩
  · have : ∀ (a : Array β) n, a.size = n → a.extract 0 n = a := fun a n hn => by subst hn; simp
    rw [this _ _ (by simpa using p1), this _ _ (by simp)] at p3
    simpa [sortBy] using p3
  · have hj : j < l.length := by rw [← e]; exact (List.getElem?_eq_some_iff.1 hy).1
    have hj' : j < (pdq (ltOf cf) l.toArray 0 l.length (Lib.bitLen l.length) true true).size := by rw [p1]; simpa using hj
    have := p4 i j (Nat.zero_le _) hij hj
    rw [getElem!_pos _ j hj', getElem!_pos _ i (by omega)] at this
    simp only [sortBy, Array.getElem?_toList] at hx hy
    rw [Array.getElem?_eq_getElem (by omega)] at hx hy
    cases hx; cases hy
    simpa [ltOf] using this
theorem cells_of_rows {w : World} {S : Nat → Prop} {c : Array Value} {k : Nat} {β : Type} [Inhabited β] {ev : β → List Value} (hk0 : 0 < k) (hlen : ∀ x, (ev x).length = k) {l : List β} (h : RowsRep (FRep w S) c k (l.map fun x => (ev x).map FV.lit)) :
    l.length * k ≤ c.size ∧ ∀ j, j < l.length * k → c[j]? = some (flatK ev k l.toArray)[j]! := by
  refine ⟨by simpa using h.1, fun j hj => ?_⟩
  have hd : j / k < l.length := Nat.div_lt_of_lt_mul (by rwa [Nat.mul_comm] at hj)
  have hm := Nat.mod_lt j hk0
  rw [get_flatK _ _ _ _ (by simpa using hj)]
  have hx : (l.map fun x => (ev x).map FV.lit)[j / k]? = some ((ev l[j / k]).map FV.lit) := by simp [hd]
  have hlk : j % k < (ev l[j / k]).length := by rw [hlen]; exact hm
  obtain ⟨u, hu, _, hr⟩ := h.2.2 (j / k) (j % k) _ (.lit (ev l[j / k])[j % k]) hx (by simp [hlk])
  have e : j / k * k + j % k = j := by rw [Nat.mul_comm]; exact Nat.div_add_mod j k
  rw [e] at hu
  rw [hu]
  cases hr
  rw [getElem!_pos _ (j / k) (by simpa using hd), getElem!_pos _ (j % k) (by simpa using hlk)]
  simp
variable {P : Program} {ρ : Ren}
theorem cmp_lays {g k : Nat} {β : Type} [Inhabited β] {ev : β → List Value} (h1 : ∀ x, ∀ v ∈ ev x, v.oneCell' = true) {cf : β → β → Int} (hc : ∀ x y, Pure P g [.agg ((ev x).map .lit), .agg ((ev y).map .lit)] (If .i64 (cf x y))) (blk off size : Nat) (w : World) : CmpLays P g #[] ev k cf blk off size w := by
  intro m os dk _ x y
  generalize sortWorldK ev k w blk off m dk os = W
  let C : Cx := ⟨W, fun _ => False, fun _ => False, fun _ => none, 0, []⟩
  have hm : Mem C [] 0 C.S0 C.m0 C.w0 := ⟨⟨rfl, Nat.le_refl _⟩, rfl, rfl, fun _ _ => rfl, Nat.le_refl _, fun _ _ _ => rfl, Le.refl _ _ _, fun b h => .inl h, fun i x hx => (by cases hx), fun i o h => (by cases h), fun i o b h => (by cases h), fun i j o1 o2 b h => (by cases h), fun b hb => hb.elim, fun _ _ => rfl, nst_nil⟩
  have ag : ∀ z, FRep W (fun _ => False) (.agg (ev z).toArray) (.agg ((ev z).map .lit)) := fun z => by
    refine .agg _ _ (by simp) (fun i c f hc hf => ?_) (fun i c hc => ?_)
    · simp only [List.getElem?_toArray] at hc
      rw [List.getElem?_map, hc] at hf
      cases hf; exact .lit _
    · simp only [List.getElem?_toArray] at hc
      exact h1 z c (List.mem_of_getElem? hc)
  have := (hc x y).run C [.agg (ev x).toArray, .agg (ev y).toArray] rfl hm rfl (fun i v p hi hp => by
    match i with
    | 0 => simp at hi hp; subst hi; subst hp; exact .fz _ _ (ag x)
    | 1 => simp at hi hp; subst hi; subst hp; exact .fz _ _ (ag y)
    | i + 2 => simp at hi)
  have h2 : Calls P g (#[.agg (ev x).toArray, .agg (ev y).toArray] ++ #[]) W (fun e w' => ∃ v S' m', e = .returned v ∧ Mem C [] 0 S' m' w' ∧ Rep w' S' m' v (.fz (If .i64 (cf x y)))) := by simpa using this
  refine h2.mono fun e w' ⟨v, S', m', he, hm', hr⟩ => ?_
  obtain ⟨q, os', hw⟩ := hm'.is_grown (fun b h => h)
  refine ⟨by rw [he]; cases hr with | fz _ _ h => cases h; rfl, q, os', hw⟩
theorem sort_meets (L : SlLaysF0.n6 P ρ) {k : Nat} (hk0 : 0 < k) (aE : ∀ w, (isAgg (ρ.t 24)).run P w = .ok true w) (zE : ∀ w, (Go.sizeOf (ρ.t 24)).run P w = .ok k w) {β : Type} [Inhabited β] {ev : β → List Value} (hlen : ∀ x, (ev x).length = k) (h1 : ∀ x, ∀ v ∈ ev x, v.oneCell' = true) {cf : β → β → Int} (hO : SWO (ltOf cf)) {g : Nat} (hg : ∀ args w, (callFunc g args).run P w = .ok (.enter g args) w)
    (hc : ∀ x y, Pure P g [.agg ((ev x).map .lit), .agg ((ev y).map .lit)] (If .i64 (cf x y))) {l : List β} (hl : l.length < 4611686018427387904) :
    Meets P (ρ.f 6) [.sl 0 k 0 l.length, .clo g [] []] 1 [(0, some (.flat k (l.map fun x => (ev x).map .lit)))] (.fz (.tup [])) [(0, some (.flat k ((sortBy cf l).map fun x => (ev x).map .lit)))] 1 := by
  refine ⟨fun C vs hn hm hlv hr => ?_⟩
  have tupR : ∀ w' S' m', Rep w' S' m' (.tuple #[]) (.fz (.tup [])) := fun w' S' m' => .fz _ _ (.tup #[] [] rfl (fun i c f hc => by simp at hc))
  match vs, hlv, hr with
  | [v0, v1], _, hr =>
  have r0 := hr 0 v0 _ rfl rfl
  have r1 := hr 1 v1 _ rfl rfl
  have ho := hm.objs 0 _ rfl
  obtain ⟨hs1, hs2, _⟩ := sortBy_spec cf hO l
  cases r1 with
  | clo _ as' cs _ _ ha hcs _ _ =>
  have ea : as' = #[] := by simpa using ha
  have ec : cs = #[] := by simpa using hcs
  subst ea; subst ec
  generalize hll : l.length = n at r0 hl
  cases r0 with
  | sl0 =>
    have : l = [] := List.length_eq_zero_iff.1 hll
    subst this
    have e : sortBy cf ([] : List β) = [] := List.length_eq_zero_iff.1 hs2
    rw [e]
    refine (AnyF.slices_SortFunc_none L none 0 (.func (.func g) #[] #[]) C.w0).mono fun e w' ⟨he, hw⟩ => ?_
    subst hw
    exact ⟨_, _, _, he, hm, tupR _ _ _⟩
  | sl _ _ _ _ b cap h hroom hcap hmx =>
    rcases ho with ⟨h2, _⟩ | ⟨b', c, e, h2, h3, h4⟩
    · rw [h] at h2; cases h2
    · rw [h] at h2; cases h2
      obtain ⟨hsz, hcells⟩ := cells_of_rows hk0 hlen h4
      obtain ⟨hb1, hb2, hb3⟩ := hm.blk 0 _ b rfl h
      have hH : HoldsK ev k C.w0 b (0 * k) l.toArray := by
        intro j hj
        simp at hj
        refine ⟨?_, ?_⟩
        · simp only [World.cell?, h3, Nat.zero_mul, Nat.zero_add]
          simpa using hcells j hj
        · simp [World.frozen?, h3]
      have hcall := AnyQ.slices_SortFunc_eq L k aE zE ev hlen h1 cf hO g #[] b (0 * k) cap l.toArray C.w0 hg (cmp_lays h1 hc b (0 * k) l.toArray.size C.w0) hH hb2 (by simpa [hll] using hl)
      rw [show l.toArray.size = n by simpa using hll] at hcall
      refine hcall.mono fun ex w' ⟨he, q, os, hw⟩ => ?_
      subst hw
      have hls : l.toArray.size = n := by simpa using hll
      have hd : pdq (ltOf cf) l.toArray 0 n (Lib.bitLen n) true true = (sortBy cf l).toArray := by rw [← hll]; simp [sortBy]
      rw [hd]
      have hset : sortWorldK ev k C.w0 b (0 * k) q (sortBy cf l).toArray os = grown (C.w0.setRow b (putCells id 0 (flatK ev k (sortBy cf l).toArray) c)) os q := by
        unfold sortWorldK putRowK putRow
        rw [mapBlock_setRow (w := Go.Sort.ahead C.w0 q) (b := b) (c := c) (e := e) (fr := (0, 0)) _ h3, Nat.zero_mul]
        rfl
      rw [hset]
      have hps : (putCells id 0 (flatK ev k (sortBy cf l).toArray) c).size = c.size := by simp [putCells]
      have hrr : ∀ w' : World, RowsRep (FRep w' C.S0) (putCells id 0 (flatK ev k (sortBy cf l).toArray) c) k ((sortBy cf l).map fun x => (ev x).map FV.lit) := fun w' => by
        refine ⟨by rw [hps]; simpa [hs2] using hsz, fun r hr => ?_, fun i j r p hi hj => ?_⟩
        · obtain ⟨x, _, rfl⟩ := List.mem_map.1 hr
          simp [hlen]
        · rw [List.getElem?_map] at hi
          obtain ⟨x, hx, rfl⟩ := Option.map_eq_some_iff.1 hi
          rw [List.getElem?_map] at hj
          obtain ⟨v, hv, rfl⟩ := Option.map_eq_some_iff.1 hj
          have hjk : j < k := by rw [← hlen x]; exact (List.getElem?_eq_some_iff.1 hv).1
          have hin : i < (sortBy cf l).length := (List.getElem?_eq_some_iff.1 hx).1
          have hlt : i * k + j < (sortBy cf l).length * k := by
            calc i * k + j < i * k + k := by omega
              _ = (i + 1) * k := by rw [Nat.add_mul, Nat.one_mul]
              _ ≤ _ := Nat.mul_le_mul_right _ hin
          have hlt2 : i * k + j < c.size := by rw [hs2] at hlt; omega
          refine ⟨v, ?_, h1 x v (List.mem_of_getElem? hv), .lit v⟩
          have e1 : (i * k + j) / k = i := by rw [Nat.mul_comm, Nat.mul_add_div hk0, Nat.div_eq_of_lt hjk, Nat.add_zero]
          have e2 : (i * k + j) % k = j := by rw [Nat.mul_comm, Nat.mul_add_mod, Nat.mod_eq_of_lt hjk]
          have e3 : (flatK ev k (sortBy cf l).toArray)[i * k + j]! = v := by
            rw [get_flatK _ _ _ _ (by simpa using hlt), e1, e2]
            rw [List.getElem?_eq_getElem hin] at hx
            cases hx
            rw [getElem!_pos _ i (by simpa using hin)]
            have hjl : j < (ev (sortBy cf l)[i]).length := by rw [hlen]; exact hjk
            rw [List.getElem?_eq_getElem hjl] at hv
            cases hv
            simp [hjl]
          unfold putCells
          rw [Array.getElem?_mapIdx, Array.getElem?_eq_getElem hlt2]
          simp only [Option.map_some, Nat.zero_le, true_and, Nat.zero_add, size_flatK, List.size_toArray, Nat.sub_zero, id]
          rw [if_pos hlt, e3]
      obtain ⟨m1, hle1⟩ := hm.write (id := 0) (o' := .flat k ((sortBy cf l).map fun x => (ev x).map .lit)) rfl h h3 hps (plain_hown (by exact trivial)) (fun w' hle hb => .inr ⟨b, _, e, h, hb, hrr w'⟩)
      refine ⟨_, _, _, he, ((m1.reheap (H' := [(0, some (.flat k ((sortBy cf l).map fun x => (ev x).map .lit)))]) (fun id => ?_)).grow os q).1, tupR _ _ _⟩
      simp only [hlook]
      cases Nat.beq 0 id <;> rfl
end Go.RT
/- Sorted lists of numbers. -/
namespace Go.RT
open Go
set_option linter.all false
def srtI (l : List Int) : List Int := l.mergeSort fun x y => decide (x ≤ y)
theorem srtI_perm (l : List Int) : (srtI l).Perm l := List.mergeSort_perm l _
theorem srtI_sorted (l : List Int) : (srtI l).Pairwise (fun x y => x ≤ y) := by
  have := List.pairwise_mergeSort (le := fun x y : Int => decide (x ≤ y)) (fun a b c h1 h2 => by simp at h1 h2 ⊢; omega) (fun a b => by simp; omega) l
  exact this.imp (fun h => by simpa using h)
end Go.RT
/- The nodes to which edges lead: sorted and cut, or put in one by one. -/
namespace Go.Pl
open Go.RT
set_option linter.all false
abbrev eqI (x y : Int) : Bool := decide (x = y)
def tosL (n : Int) (l : List Edg) : List Int := (l.filter fun e => decide (e.f = n)).map (·.t)
def Asc (l : List Int) : Prop := l.Pairwise (fun x y => x < y)
theorem Asc.ext : ∀ {a b : List Int}, Asc a → Asc b → (∀ p, p ∈ a ↔ p ∈ b) → a = b
  | [], [], _, _, _ => rfl
  | [], y :: b, _, _, h => by have := (h y).2 (List.mem_cons_self ..); cases this
  | x :: a, [], _, _, h => by have := (h x).1 (List.mem_cons_self ..); cases this
  | x :: a, y :: b, ha, hb, h => by
    obtain ⟨a1, a2⟩ := List.pairwise_cons.1 ha
    obtain ⟨b1, b2⟩ := List.pairwise_cons.1 hb
    have e : x = y := by
      rcases List.mem_cons.1 ((h x).1 (List.mem_cons_self ..)) with e | h1
      · exact e
      · rcases List.mem_cons.1 ((h y).2 (List.mem_cons_self ..)) with e | h2
        · exact e.symm
        · have := b1 x h1; have := a1 y h2; omega
    subst e
    refine congrArg _ (Asc.ext a2 b2 fun p => ?_)
    constructor
    · intro hp
      rcases List.mem_cons.1 ((h p).1 (List.mem_cons_of_mem _ hp)) with e | h1
      · subst e; have := a1 p hp; omega
      · exact h1
    · intro hp
      rcases List.mem_cons.1 ((h p).2 (List.mem_cons_of_mem _ hp)) with e | h1
      · subst e; have := b1 p hp; omega
      · exact h1
theorem ddF_asc : ∀ (l : List Int) (p : Int), (p :: l).Pairwise (fun x y => x ≤ y) → Asc (p :: ddF eqI p l) ∧ ∀ x, x ∈ p :: ddF eqI p l ↔ x ∈ p :: l
  | [], p, _ => ⟨by simp [Asc, ddF], fun x => by simp [ddF]⟩
  | y :: l, p, h => by
    obtain ⟨h1, h2⟩ := List.pairwise_cons.1 h
    obtain ⟨i1, i2⟩ := ddF_asc l y h2
    have hpy := h1 y (List.mem_cons_self ..)
    simp only [ddF]
    by_cases e : y = p
    · subst e
      simp only [eqI, decide_true, cond_true]
      refine ⟨i1, fun x => ?_⟩
      rw [i2]; simp
    · have : eqI y p = false := by simp [eqI, e]
      rw [this, cond_false]
      refine ⟨List.pairwise_cons.2 ⟨fun z hz => ?_, i1⟩, fun x => ?_⟩
      · have := (i2 z).1 hz
        rcases List.mem_cons.1 this with rfl | hz
        · omega
        · have := (List.pairwise_cons.1 h2).1 z hz; omega
      · rw [List.mem_cons, i2, List.mem_cons]; simp
theorem comp_asc {l : List Int} (h : l.Pairwise (fun x y => x ≤ y)) : Asc (compL eqI l) ∧ ∀ x, x ∈ compL eqI l ↔ x ∈ l := by
  cases l with
  | nil => exact ⟨by simp [Asc, compL], fun x => by simp [compL]⟩
  | cons p l => exact ddF_asc l p h
def nextI (n : Int) (l : List Edg) : List Int := compL eqI (srtI (tosL n l))
theorem nextI_spec (n : Int) (l : List Edg) : Asc (nextI n l) ∧ ∀ x, x ∈ nextI n l ↔ ∃ e ∈ l, e.f = n ∧ e.t = x := by
  obtain ⟨h1, h2⟩ := comp_asc (srtI_sorted (tosL n l))
  refine ⟨h1, fun x => ?_⟩
  show x ∈ compL eqI _ ↔ _
  rw [h2, (srtI_perm _).mem_iff]
  simp [tosL, and_assoc]
end Go.Pl
/- The valid graph of edges: sorted, of several edges between the same nodes the cheapest. -/
namespace Go.Pl
open Go.RT Go.Shelf Go.Proofs
set_option linter.all false
instance : Inhabited Edg := ⟨⟨0, 0, 0⟩⟩
theorem cmpI_neg (a b : Int) : cmpI a b < 0 ↔ a < b := by unfold cmpI; split <;> (try split) <;> omega
theorem cmpI_zero (a b : Int) : cmpI a b = 0 ↔ a = b := by unfold cmpI; split <;> (try split) <;> omega
/-- strictly ascending by their ends -/
def ltK (a b : Edg) : Prop := a.f < b.f ∨ a.f = b.f ∧ a.t < b.t
def AscK (l : List Edg) : Prop := l.Pairwise ltK
theorem AscK.ext : ∀ {a b : List Edg}, AscK a → AscK b → (∀ p, p ∈ a ↔ p ∈ b) → a = b
  | [], [], _, _, _ => rfl
  | [], y :: b, _, _, h => by have := (h y).2 (List.mem_cons_self ..); cases this
  | x :: a, [], _, _, h => by have := (h x).1 (List.mem_cons_self ..); cases this
  | x :: a, y :: b, ha, hb, h => by
    obtain ⟨a1, a2⟩ := List.pairwise_cons.1 ha
    obtain ⟨b1, b2⟩ := List.pairwise_cons.1 hb
    have e : x = y := by
      rcases List.mem_cons.1 ((h x).1 (List.mem_cons_self ..)) with e | h1
      · exact e
      · rcases List.mem_cons.1 ((h y).2 (List.mem_cons_self ..)) with e | h2
        · exact e.symm
        · have := b1 x h1; have := a1 y h2; unfold ltK at *; omega
    subst e
    refine congrArg _ (AscK.ext a2 b2 fun p => ?_)
    constructor
    · intro hp
      rcases List.mem_cons.1 ((h p).1 (List.mem_cons_of_mem _ hp)) with e | h1
      · subst e; have := a1 p hp; unfold ltK at *; omega
      · exact h1
    · intro hp
      rcases List.mem_cons.1 ((h p).2 (List.mem_cons_of_mem _ hp)) with e | h1
      · subst e; have := b1 p hp; unfold ltK at *; omega
      · exact h1
/-- the cheapest edge of each pair of ends, ascending -/
structure Least (l s : List Edg) : Prop where
  asc : AscK s
  sub : ∀ e ∈ s, e ∈ l
  min : ∀ e ∈ s, ∀ e' ∈ l, e'.f = e.f → e'.t = e.t → e.c ≤ e'.c
  all : ∀ e' ∈ l, ∃ e ∈ s, e.f = e'.f ∧ e.t = e'.t
end Go.Pl
/- The order of routes; valid tables. No program in sight. -/
namespace Go.Pl
open Go Go.RT
set_option linter.all false
def ltPf (p q : Pfx) : Prop := p.addr < q.addr ∨ p.addr = q.addr ∧ p.len < q.len
theorem Pfx.ext' {p q : Pfx} (h1 : p.addr = q.addr) (h2 : p.len = q.len) : p = q := by
  cases p; cases q; simp only at h1 h2; subst h1; subst h2; rfl
theorem cmpP_neg (p q : Pfx) : cmpP p q < 0 ↔ ltPf p q := by
  unfold cmpP ltPf
  by_cases c : (decide (p.addr < q.addr) || decide (p.addr = q.addr) && decide (p.len < q.len)) = true
  · rw [if_pos c]; simp at c; simp; omega
  · rw [if_neg c]; simp at c
    constructor
    · intro h; split at h <;> omega
    · intro h; omega
theorem cmpP_zero (p q : Pfx) : cmpP p q = 0 ↔ p = q := by
  unfold cmpP
  by_cases c : (decide (p.addr < q.addr) || decide (p.addr = q.addr) && decide (p.len < q.len)) = true
  · rw [if_pos c]; simp at c
    constructor
    · intro h; cases h
    · intro h; subst h; omega
  · rw [if_neg c]
    by_cases h : p = q
    · simp [h]
    · simp [h]
theorem fst3_neg (a b c : Int) : fst3 a b c < 0 ↔ a < 0 ∨ a = 0 ∧ (b < 0 ∨ b = 0 ∧ c < 0) := by
  unfold fst3
  split
  · omega
  · split <;> omega
def ltRt (a b : Rte) : Prop := ltPf a.pf b.pf ∨ a.pf = b.pf ∧ (a.di < b.di ∨ a.di = b.di ∧ a.pr < b.pr)
theorem cmpRt_neg (a b : Rte) : cmpRt a b < 0 ↔ ltRt a b := by
  unfold cmpRt ltRt
  rw [fst3_neg, cmpP_neg, cmpP_zero, cmpI_neg, cmpI_zero, cmpI_neg]
def ltHo (a b : Hop) : Prop := a.ad < b.ad ∨ a.ad = b.ad ∧ (a.ifc < b.ifc ∨ a.ifc = b.ifc ∧ a.ro < b.ro)
theorem cmpHo_neg (a b : Hop) : cmpHo a b < 0 ↔ ltHo a b := by
  unfold cmpHo ltHo
  rw [fst3_neg, cmpI_neg, cmpI_zero, cmpI_neg, cmpI_zero, cmpI_neg]
theorem pf_tri (p q : Pfx) : ltPf p q ∨ p = q ∨ ltPf q p := by
  unfold ltPf
  by_cases h1 : p.addr = q.addr
  · by_cases h2 : p.len = q.len
    · exact .inr (.inl (Pfx.ext' h1 h2))
    · omega
  · omega
theorem ltPf.trans {a b c : Pfx} (h1 : ltPf a b) (h2 : ltPf b c) : ltPf a c := by unfold ltPf at *; omega
theorem ltPf.irr {a : Pfx} (h : ltPf a a) : False := by unfold ltPf at h; omega
theorem ltRt.trans {a b c : Rte} (h1 : ltRt a b) (h2 : ltRt b c) : ltRt a c := by
  unfold ltRt at *
  rcases h1 with h1 | ⟨e1, h1⟩ <;> rcases h2 with h2 | ⟨e2, h2⟩
  · exact .inl (h1.trans h2)
  · exact .inl (e2 ▸ h1)
  · exact .inl (e1 ▸ h2)
  · exact .inr ⟨e1.trans e2, by omega⟩
theorem ltRt.irr {a : Rte} (h : ltRt a a) : False := by
  unfold ltRt at h
  rcases h with h | ⟨_, h⟩
  · exact h.irr
  · omega
theorem rt_tri (a b : Rte) : ltRt a b ∨ (a.pf = b.pf ∧ a.di = b.di ∧ a.pr = b.pr) ∨ ltRt b a := by
  unfold ltRt
  rcases pf_tri a.pf b.pf with h | h | h
  · exact .inl (.inl h)
  · have := h.symm
    by_cases h1 : a.di = b.di
    · by_cases h2 : a.pr = b.pr
      · exact .inr (.inl ⟨h, h1, h2⟩)
      · rcases Int.lt_or_gt_of_ne h2 with k | k
        · exact .inl (.inr ⟨h, .inr ⟨h1, k⟩⟩)
        · exact .inr (.inr (.inr ⟨this, .inr ⟨h1.symm, k⟩⟩))
    · rcases Int.lt_or_gt_of_ne h1 with k | k
      · exact .inl (.inr ⟨h, .inl k⟩)
      · exact .inr (.inr (.inr ⟨this, .inl k⟩))
  · exact .inr (.inr (.inl h))
def sameK (a b : Rte) : Prop := a.pf = b.pf ∧ a.pr = b.pr
/-- a valid table -/
structure TabOk (l : List Rte) : Prop where
  len : l.length ≤ 2000
  chk : ∀ x ∈ l, checkRt x = 0
  asc : l.Pairwise ltRt
  uni : l.Pairwise fun a b => ¬ sameK a b
theorem hasB_iff {l : List Rte} {p : Pfx} {n : Int} : hasB l p n = true ↔ ∃ x ∈ l, x.pf = p ∧ x.pr = n := by
  simp [hasB, List.any_eq_true]
theorem chk_iff (l : List Rte) : ∀ (t s : List Rte), chkGo l s t = 0 ↔ (∀ x ∈ t, checkRt x = 0) ∧ t.Pairwise ltRt ∧ (t.Pairwise fun a b => ¬ sameK a b) ∧ (∀ x ∈ t, ∀ q, s.getLast? = some q → ltRt q x) ∧ ∀ x ∈ t, ∀ y ∈ s, ¬ sameK y x
  | [], s => by simp [chkGo]
  | x :: t, s => by
    simp only [chkGo]
    by_cases h1 : checkRt x ≠ 0
    · rw [if_pos h1]
      exact ⟨fun h => absurd h h1, fun h => absurd (h.1 x (List.mem_cons_self ..)) h1⟩
    rw [if_neg h1]
    by_cases h2 : hasB s x.pf x.pr = true
    · rw [if_pos h2]
      obtain ⟨y, hy, k1, k2⟩ := hasB_iff.1 h2
      exact ⟨fun h => (by cases h), fun h => absurd ⟨k1, k2⟩ (h.2.2.2.2 x (List.mem_cons_self ..) y hy)⟩
    rw [if_neg h2]
    have hno : ∀ y ∈ s, ¬ sameK y x := fun y hy k => h2 (hasB_iff.2 ⟨y, hy, k⟩)
    by_cases h3 : badRt s.getLast? x = true
    · rw [if_pos h3]
      refine ⟨fun h => (by cases h), fun h => ?_⟩
      cases hs : s.getLast? with
      | none => rw [hs] at h3; cases h3
      | some q =>
        rw [hs] at h3
        have := h.2.2.2.1 x (List.mem_cons_self ..) q hs
        rw [← cmpRt_neg] at this
        simp only [badRt, decide_eq_true_eq] at h3
        omega
    rw [if_neg h3]
    have hlt : ∀ q, s.getLast? = some q → ltRt q x := fun q hq => by
      rw [hq] at h3
      rw [← cmpRt_neg]
      simp only [badRt, decide_eq_true_eq] at h3
      omega
    rw [chk_iff l t (s ++ [x])]
    simp only [List.getLast?_append, List.getLast?_singleton, Option.some_or, Option.some.injEq, List.mem_append, List.mem_singleton]
    constructor
    · rintro ⟨a1, a2, a3, a4, a5⟩
      refine ⟨fun y hy => ?_, List.pairwise_cons.2 ⟨fun y hy => a4 y hy x rfl, a2⟩, List.pairwise_cons.2 ⟨fun y hy => a5 y hy x (.inr rfl), a3⟩, fun y hy q hq => ?_, fun y hy z hz => ?_⟩
      · rcases List.mem_cons.1 hy with rfl | hy
        · simpa using h1
        · exact a1 y hy
      · rcases List.mem_cons.1 hy with rfl | hy
        · exact hlt q hq
        · exact (hlt q hq).trans (a4 y hy x rfl)
      · rcases List.mem_cons.1 hy with rfl | hy
        · exact hno z hz
        · exact a5 y hy z (.inl hz)
    · rintro ⟨a1, a2, a3, a4, a5⟩
      obtain ⟨b1, b2⟩ := List.pairwise_cons.1 a2
      obtain ⟨c1, c2⟩ := List.pairwise_cons.1 a3
      refine ⟨fun y hy => a1 y (List.mem_cons_of_mem _ hy), b2, c2, fun y hy q hq => hq ▸ b1 y hy, fun y hy z hz => ?_⟩
      rcases hz with hz | rfl
      · exact a5 y (List.mem_cons_of_mem _ hy) z hz
      · exact c1 y hy
theorem check_iff (l : List Rte) : checkL l = 0 ↔ TabOk l := by
  unfold checkL
  by_cases h : 2000 < l.length
  · rw [if_pos h]
    exact ⟨fun k => (by cases k), fun k => by have := k.len; omega⟩
  · rw [if_neg h, chk_iff l l []]
    constructor
    · rintro ⟨a1, a2, a3, _, _⟩; exact ⟨by omega, a1, a2, a3⟩
    · rintro ⟨_, a1, a2, a3⟩; exact ⟨a1, a2, a3, fun x _ q hq => by simp at hq, fun x _ y hy => by simp at hy⟩
end Go.Pl
