/- A part of the proof: RT28, RT29, RT30, RT31, RT32, RT33, RTZ, RT34, RT35, RT36, RT37, RT38, RT39, RT40, RT41, RT42, RT43, RT44, RT45, RT46, RT47, RT48, RT49, RTW, TabE, PL, S0, S1, S2, S3, G0, RP1, GP1, GP2, SRT, SRI0, GP3, GP4, RP2, JP1, RP3, RP4, RP5, RP6, GP5. -/
import Derived.Test.YtkofbemgpeagbaaGreatZB
import Derived.Scope
import Derived.Maps.Keyed
import Derived.Carry
import Derived.RangeFuncSeq
import Derived.RangeFuncLeaves
import Derived.Laws.BytesString
import Derived.Test.YtkofbemgpeagbaaGreatChecked
import Derived.Eval
import Derived.Shelf.SlSortCmp.NoneTotal
set_option linter.all false
/- Labels and scopes; tests of pointers against nil; maps. -/
namespace Go.RT
open Go
set_option linter.all false
section
variable {r : Option Nat} {P : Program} {C : Cx} {N : Nat} {G : Env} {H : Hp} {nx : Nat} {Q : Exit → Act → World → Prop}
theorem n_label {l : Nat} (h : Next C N G H nx (Q .normal)) : Next C N G H nx ((Code.label l).wpM r P Q) := fun a w hr => wpIn_label (h a w hr)
theorem n_scope {c : Code} (h : Next C N G H nx (c.wpM none P (Exit.noGoto Q))) : Next C N G H nx ((Code.scope c).wpM none P Q) := fun a w hr => wpIn_wide.2 (wp_scope_straight (wpIn_wide.1 (h a w hr)))
theorem s_ng (h : Next C N G H nx (Q .normal)) : Next C N G H nx (Exit.noGoto Q .normal) := h
theorem s_ng_ret (h : Next C N G H nx (Q .ret)) : Next C N G H nx (Exit.noGoto Q .ret) := h
theorem s_ng_exit {id : Nat} (h : Next C N G H nx (Q (.exit id))) : Next C N G H nx (Exit.noGoto Q (.exit id)) := h
theorem nK2 {K K' : Act → World → Prop} (h : Next C N G H nx K')
    (hk : Next C N G H nx K' → Next C N G H nx K := by
      intro h
      (repeat (first | refine n_seq ?_ | refine n_block ?_ | refine n_skip ?_ | refine n_exit ?_ | refine n_ret ?_ | refine n_label ?_ | refine n_scope ?_ | refine s_then ?_ | refine s_then_ret ?_ | refine s_then_exit ?_ | refine s_blk _ ?_ | refine s_blk_ret ?_ | refine s_blk_hit ?_ | refine s_blk_miss rfl ?_ | refine s_ng ?_ | refine s_ng_ret ?_ | refine s_ng_exit ?_))
      exact h) : Next C N G H nx K := hk h
end
section
variable {P : Program} {o : Oper} {g : Bool} {G : Env} {x y : Operand} {t t' : TypeId} {H : Hp} {nx : Nat}
/-! ## maps -/
mutual
/-- the value of a reading that has no memory -/
def valF : FV → Value
  | .lit v => v
  | .agg fs => .agg (valFs fs).toArray
  | .tup fs => .tuple (valFs fs).toArray
  | _ => undef
def valFs : List FV → List Value
  | [] => []
  | f :: r => valF f :: valFs r
end
theorem valFs_eq : ∀ fs, valFs fs = fs.map valF
  | [] => rfl
  | f :: r => by simp [valFs, valFs_eq r]
theorem FRep.val {w : World} {S : Nat → Prop} {v : Value} {f : FV} (h : FRep w S v f) : RT.memless f = true → v = valF f := by
  induction h with
  | lit v => exact fun _ => rfl
  | agg cs fs hl _ _ ih =>
    intro hm
    simp only [RT.memless] at hm
    simp only [valF, valFs_eq]
    congr 1
    refine Array.ext' (List.ext_getElem? fun i => ?_)
    simp only [Array.getElem?_toList, List.getElem?_map]
    cases hc : cs[i]? with
    | none =>
      rw [List.getElem?_eq_none (by rw [← hl]; exact Array.getElem?_eq_none_iff.1 hc)]; rfl
    | some c =>
      have hi : i < fs.length := by rw [← hl]; exact (Array.getElem?_eq_some_iff.1 hc).1
      rw [List.getElem?_eq_getElem hi]
      exact congrArg some (ih i c fs[i] hc (List.getElem?_eq_getElem hi) (memlesss_mem hm _ (List.getElem_mem hi)))
  | tup cs fs hl _ ih =>
    intro hm
    simp only [RT.memless] at hm
    simp only [valF, valFs_eq]
    congr 1
    refine Array.ext' (List.ext_getElem? fun i => ?_)
    simp only [Array.getElem?_toList, List.getElem?_map]
    cases hc : cs[i]? with
    | none =>
      rw [List.getElem?_eq_none (by rw [← hl]; exact Array.getElem?_eq_none_iff.1 hc)]; rfl
    | some c =>
      have hi : i < fs.length := by rw [← hl]; exact (Array.getElem?_eq_some_iff.1 hc).1
      rw [List.getElem?_eq_getElem hi]
      exact congrArg some (ih i c fs[i] hc (List.getElem?_eq_getElem hi) (memlesss_mem hm _ (List.getElem_mem hi)))
  | clo => exact fun hm => by simp [RT.memless] at hm
  | nil => exact fun hm => by simp [RT.memless] at hm
  | vals => exact fun hm => by simp [RT.memless] at hm
  | cellp => exact fun hm => by simp [RT.memless] at hm
  | mapn => exact fun hm => by simp [RT.memless] at hm
  | mapv => exact fun hm => by simp [RT.memless] at hm
/-- keys of a type, encoded -/
class KEnc (P : Program) (kt : TypeId) (κ : Type) (ek : κ → FV) (okK : outParam (κ → Prop)) : Prop where
  keyed : Maps.Keyed P kt
  ml : ∀ k, memless (ek k) = true
  some : ∀ k, okK k → ∃ l, keyOf P kt (valF (ek k)) = some l
  inj : ∀ a b, valF (ek a) = valF (ek b) → a = b
open Go.ChangeMaps (setBlock)
section
variable {κ ν : Type} [DecidableEq κ] {ek : κ → FV} {ev : ν → FV} {okK : κ → Prop} {kt et : TypeId}
end
end
end Go.RT
/- A call that is lent objects and leaves them as they were. -/
namespace Go.RT
open Go
set_option linter.all false
section
variable {P : Program} {o : Oper} {g : Bool} {G : Env} {H : Hp} {nx : Nat}
theorem Lent.agree {L : List Nat} {n : Nat} {H H' Hin : Hp} (h : Lent L n H Hin) (ha : ∀ i, L.contains i = true → hlook H' i = hlook H i) : Lent L n H' Hin :=
  ⟨h.len, h.nodup, h.all, fun i o hi => by
    obtain ⟨h1, h2, h3⟩ := h.get i o hi
    exact ⟨h1, (ha _ (by simp only [List.contains_eq_mem, decide_eq_true_eq, renI, List.getD_eq_getElem?_getD]; rw [List.getElem?_eq_getElem (by rw [h.len]; exact h1)]; exact List.getElem_mem _)).trans h2, h3⟩⟩
end
end Go.RT
/- The engine, part 30: a region that draws, order by order. -/
namespace Go.RT
section
variable {P : Program} {ops : Array Oper} {N : Nat} {C : Cx} {Q : Exit → Act → World → Prop} {X : Array Bool} {G : Env} {H : Hp} {nx : Nat}
/-- from any point of a region that draws -/
def AnyN (P : Program) (ops : Array Oper) (N : Nat) (C : Cx) (Q : Exit → Act → World → Prop) (X : Array Bool) (G : Env) (H : Hp) (nx : Nat) : Prop :=
  ∀ (r : Option Nat) fuel a w, (X.toList.filter (!·)).length ≤ fuel → Rel C N G H nx a w → wpAnyIn (FM r) 0 P .any ops Q fuel X a w
def StepN (P : Program) (ops : Array Oper) (N : Nat) (C : Cx) (Q : Exit → Act → World → Prop) (X : Array Bool) (G : Env) (H : Hp) (nx : Nat) (i : Nat) : Prop :=
  ∃ o, ops[i]? = some o ∧ o.guard = none ∧ (match o.dst with | some d => Nat.blt d N | none => true) = true ∧ Nat.blt ((X.setIfInBounds i true).toList.filter (!·)).length (X.toList.filter (!·)).length = true ∧
    ∃ p H1 nx1, OpS P o true G H nx p H1 nx1 ∧ AnyN P ops N C Q (X.setIfInBounds i true) (gput G o.dst p) H1 nx1
theorem AnyN.nil (hr : Region.ready .any ops X = []) (h : Next C N G H nx (Q .normal)) : AnyN P ops N C Q X G H nx := fun _ fuel a w _ hR => by
  cases fuel with
  | zero => exact ⟨hr, h a w hR⟩
  | succ fuel => exact ⟨fun _ => h a w hR, fun i hi => by rw [hr] at hi; cases hi⟩
theorem AnyN.step {L : List Nat} (hr : Region.ready .any ops X = L) (hne : L ≠ []) (h : ∀ i ∈ L, StepN P ops N C Q X G H nx i) : AnyN P ops N C Q X G H nx := fun r fuel a w hf hR => by
  cases fuel with
  | zero =>
    exfalso
    cases L with
    | nil => exact hne rfl
    | cons i L =>
      obtain ⟨o, _, _, _, h4, _⟩ := h i (by simp)
      have := Nat.le_of_ble_eq_true h4
      omega
  | succ fuel =>
    refine ⟨fun e => absurd (hr.symm.trans e) hne, fun i hi => ?_⟩
    obtain ⟨o, h1, h2, h3, h4, p, H1, nx1, h5, h6⟩ := h i (by rw [← hr]; exact hi)
    have h4' := Nat.le_of_ble_eq_true h4
    obtain ⟨S, m, hm, hsl⟩ := hR.mem
    unfold wpOpIn
    simp only [h1]
    rw [if_pos (by simp [Region.wanted, h2])]
    refine h5.run C S m a w hm rfl (fun t q _ hq => hsl t q hq) _ _ fun v w' S' m' hm' hle hv => ?_
    refine h6 r fuel _ _ (by omega) ⟨by rw [put_defers]; exact hR.defers, by rw [put_size]; exact hR.size, S', m', hm', fun t q hq => ?_⟩
    rw [look_gput] at hq
    by_cases hd : o.dst = some t
    · rw [if_pos hd] at hq; cases hq
      rw [hd]
      have hlt : t < N := by rw [hd] at h3; exact Nat.le_of_ble_eq_true h3
      exact ⟨v, put_self (by rw [hR.size]; exact hlt), hv⟩
    · rw [if_neg hd] at hq
      obtain ⟨u, hu, hr2⟩ := hsl t q hq
      exact ⟨u, (put_at hd).trans hu, hr2.mono hle⟩
theorem StepN.mk {i : Nat} {o : Oper} {p : PV} {H1 : Hp} {nx1 : Nat} (h1 : ops[i]? = some o) (h5 : OpS P o true G H nx p H1 nx1) (h2 : o.guard = none) (h3 : (match o.dst with | some d => Nat.blt d N | none => true) = true) (h4 : Nat.blt ((X.setIfInBounds i true).toList.filter (!·)).length (X.toList.filter (!·)).length = true)
    (h6 : AnyN P ops N C Q (X.setIfInBounds i true) (gput G o.dst p) H1 nx1) : StepN P ops N C Q X G H nx i := ⟨o, h1, h2, h3, h4, p, H1, nx1, h5, h6⟩
theorem AnyN.one (i : Nat) (hr : Region.ready .any ops X = [i]) (h : StepN P ops N C Q X G H nx i) : AnyN P ops N C Q X G H nx := .step hr (by simp) fun j hj => by simp at hj; subst hj; exact h
theorem AnyN.two (i j : Nat) (hr : Region.ready .any ops X = [i, j]) (h : StepN P ops N C Q X G H nx i) (h2 : StepN P ops N C Q X G H nx j) : AnyN P ops N C Q X G H nx := .step hr (by simp) fun k hk => by
  simp at hk; rcases hk with rfl | rfl
  · exact h
  · exact h2
end
end Go.RT
/- The engine, part 31: rows of slices that their cells own. -/
namespace Go.RT
def ownL (sz : Nat) (irs : List (List (List FV))) : List (List PV) := irs.map fun r => [PV.own sz r]
def fzL (sz : Nat) (irs : List (List (List FV))) : List (List FV) := irs.map fun r => [FV.vals sz r]
theorem renO_own (L : List Nat) (sz : Nat) (irs : List (List (List FV))) : renO L (.refs 1 (ownL sz irs)) = .refs 1 (ownL sz irs) := by
  simp only [renO, ownL, List.map_map]
  congr 1
theorem ltO_own (n sz : Nat) (irs : List (List (List FV))) : ltO n (.refs 1 (ownL sz irs)) := fun r hr => by
  obtain ⟨r0, _, rfl⟩ := List.mem_map.1 hr; rfl
theorem ent_own {L F : List Nat} {H : Hp} {id sz : Nat} {irs : List (List (List FV))} (h1 : Nat.blt id L.length = true) (h2 : F.contains (renI L id) = false) (h3 : hlook H (renI L id) = some (.refs 1 (ownL sz irs))) : Nat.blt id L.length = true ∧ F.contains (renI L id) = false ∧ EntO L F H (renI L id) (.refs 1 (ownL sz irs)) :=
  ent_same h1 h2 (by rw [renO_own]; exact h3) (ltO_own _ _ _)
theorem ownL_set (sz : Nat) (irs : List (List (List FV))) (i : Nat) (r : List (List FV)) : (ownL sz irs).set i [PV.own sz r] = ownL sz (irs.set i r) := List.map_set.symm
theorem ownL_get {sz : Nat} {irs : List (List (List FV))} {i : Nat} {r : List (List FV)} (h : irs[i]? = some r) : (ownL sz irs)[i]? = some [PV.own sz r] := by unfold ownL; rw [List.getElem?_map, h]; rfl
theorem ownL_rep (sz n : Nat) : List.replicate n [PV.own sz []] = ownL sz (List.replicate n []) := by unfold ownL; rw [List.map_replicate]
theorem set_get {α : Type} (l : List α) (i : Nat) (x : α) (h : i < l.length) : (l.set i x)[i]? = some x := by rw [List.getElem?_set]; simp [h]
theorem ownL_len (sz : Nat) (irs : List (List (List FV))) : (ownL sz irs).length = irs.length := by simp [ownL]
end Go.RT
namespace Go.RT
theorem own_back {sz : Nat} {irs : List (List (List FV))} {v : Nat} {x y : List PV} {r : List (List FV)} : (((ownL sz irs).set v x).set v y).set v [PV.own sz r] = ownL sz (irs.set v r) := by rw [List.set_set, List.set_set, ownL_set]
theorem fzL_len (sz : Nat) (irs : List (List (List FV))) : (fzL sz irs).length = irs.length := by simp [fzL]
theorem take_all0 {α : Type} {l : List α} {k : Nat} (h : l.length = k) : (l.drop 0).take k = l := by subst h; simp
end Go.RT
/- The engine, part 32: a frozen slice clipped: 's[:len(s):len(s)]'. -/
namespace Go.RT
section
variable {P : Program} {o : Oper} {g : Bool} {G : Env} {x : Operand} {t : TypeId}
end
end Go.RT
/- The engine, part 33: a region that draws, where only the order of its effects is gone through. -/
namespace Go.RT
section
variable {P : Program} {ops : Array Oper} {N : Nat} {C : Cx} {Q : Exit → Act → World → Prop}
/-- what is asked of the region: no guards; slots written once; who reads a slot waits for it; edges lead back -/
def yOK (ops : Array Oper) (N : Nat) : Bool :=
  (List.range ops.size).all fun i => match ops[i]? with
    | none => true
    | some o => o.guard.isNone && (match o.dst with | some d => decide (d < N) | none => true) && (o.after.all fun e => !Region.binds .any e || decide (e.on < i)) &&
      (List.range ops.size).all fun j => match ops[j]? with
        | none => true
        | some oj => match oj.dst with
          | none => true
          | some d => (!decide (o.dst = some d) || decide (j = i)) && (!(opTmps o).contains d || o.after.any fun e => Region.binds .any e && decide (e.on = j))
structure YOk (ops : Array Oper) (N : Nat) : Prop where
  grd : ∀ (i : Nat) (o : Oper), ops[i]? = some o → o.guard = none
  dst : ∀ (i : Nat) (o : Oper) (d : Tmp), ops[i]? = some o → o.dst = some d → d < N
  back : ∀ (i : Nat) (o : Oper) (e : Edge), ops[i]? = some o → e ∈ o.after → Region.binds .any e = true → e.on < i
  once : ∀ (i j : Nat) (d : Tmp), dstOf ops i = some d → dstOf ops j = some d → i = j
  read : ∀ (i j : Nat) (o : Oper) (d : Tmp), ops[i]? = some o → dstOf ops j = some d → d ∈ opTmps o → ∃ e ∈ o.after, Region.binds .any e = true ∧ e.on = j
theorem yOK_spec (h : yOK ops N = true) : YOk ops N := by
  have hj : ∀ j o, ops[j]? = some o → _ := fun j o ho => by
    have := List.all_eq_true.1 h j (List.mem_range.2 (Array.getElem?_eq_some_iff.1 ho).1)
    rw [ho] at this
    exact this
  simp only [Bool.and_eq_true, Array.all_eq_true_iff_forall_mem, Bool.or_eq_true, Bool.not_eq_true', decide_eq_true_eq, decide_eq_false_iff_not, List.all_eq_true, List.mem_range] at hj
  have hd : ∀ {j : Nat} {d : Tmp}, dstOf ops j = some d → ∃ oj, ops[j]? = some oj ∧ oj.dst = some d ∧ j < ops.size := fun {j d} h => by
    unfold dstOf at h
    obtain ⟨oj, h1, h2⟩ := Option.bind_eq_some_iff.1 h
    exact ⟨oj, h1, h2, (Array.getElem?_eq_some_iff.1 h1).1⟩
  refine ⟨fun j o ho => ?_, fun j o d ho hd => ?_, fun j o e ho he hb => ?_, fun i j d h1 h2 => ?_, fun i j o d ho h1 h2 => ?_⟩
  · exact Option.isNone_iff_eq_none.1 (hj j o ho).1.1.1
  · have := (hj j o ho).1.1.2
    rw [hd] at this
    simpa using this
  · rcases (hj j o ho).1.2 e he with h | h
    · rw [hb] at h; cases h
    · exact h
  · obtain ⟨oi, a1, a2, a3⟩ := hd h1
    obtain ⟨oj, b1, b2, b3⟩ := hd h2
    have := (hj i oi a1).2 j b3
    rw [b1] at this
    simp only [b2, Bool.and_eq_true, Bool.or_eq_true, Bool.not_eq_true', decide_eq_false_iff_not, decide_eq_true_eq] at this
    rcases this.1 with h | h
    · exact absurd a2 h
    · exact h.symm
  · obtain ⟨oj, b1, b2, b3⟩ := hd h1
    have := (hj i o ho).2 j b3
    rw [b1] at this
    simp only [b2, Bool.and_eq_true, Bool.or_eq_true, Bool.not_eq_true', decide_eq_false_iff_not, decide_eq_true_eq] at this
    rcases this.2 with h | h
    · exact absurd h2 (by simpa using h)
    · rw [Array.any_eq_true'] at h
      obtain ⟨e, he, hb⟩ := h
      simp only [Bool.and_eq_true, decide_eq_true_eq] at hb
      exact ⟨e, he, hb⟩
/-- a pure operation that may be done at any time from now on -/
def Virt (P : Program) (ops : Array Oper) (Y : Array Bool) (G : Env) (i : Nat) : Prop :=
  ∃ o p, ops[i]? = some o ∧ (∀ H nx, OpS P o true G H nx p H nx) ∧ (∀ d, o.dst = some d → look G d = some p) ∧ ∀ t ∈ opTmps o, ∀ j, dstOf ops j = some t → Y.getD j false = true
/-- the operations Y are done, or can be done at any time -/
def AnyY (P : Program) (ops : Array Oper) (N : Nat) (C : Cx) (Q : Exit → Act → World → Prop) (Y : Array Bool) (G : Env) (H : Hp) (nx : Nat) : Prop :=
  ∀ (r : Option Nat) fuel X a w, X.size = ops.size → (∀ i, X.getD i false = true → Y.getD i false = true) → (∀ i, Y.getD i false = true → X.getD i false = false → Virt P ops Y G i) → (X.toList.filter (!·)).length ≤ fuel → a.defers = C.df → a.tmps.size = N →
    (∃ S m, Mem C H nx S m w ∧ ∀ t q, look G t = some q → (∀ i, Y.getD i false = true → X.getD i false = false → dstOf ops i ≠ some t) → RepAt w S m a t q) → wpAnyIn (FM r) 0 P .any ops Q fuel X a w
theorem virt_more {Y : Array Bool} {G : Env} {i j : Nat} {d : Option Tmp} {p : PV} (hj : j < Y.size) (hd : dstOf ops j = d) (hY : Y.getD j false = false) (hG : ∀ t, d = some t → look G t = none) (h : Virt P ops Y G i) : Virt P ops (Y.setIfInBounds j true) (gput G d p) i := by
  obtain ⟨o, q, h1, h2, h3, h4⟩ := h
  have hlk : ∀ t ∈ opTmps o, look (gput G d p) t = look G t := fun t ht => by
    rw [look_gput, if_neg]
    intro e
    have := h4 t ht j (hd.trans e)
    rw [hY] at this; cases this
  refine ⟨o, q, h1, fun H nx => ⟨fun C S m a w hm hg hr => (h2 H nx).runE C S m a w hm hg fun t q ht hq => hr t q ht (by rw [hlk t ht]; exact hq)⟩, fun t ht => ?_, fun t ht k hk => ?_⟩
  · rw [look_gput]
    by_cases e : d = some t
    · have := hG t e
      rw [h3 t ht] at this; cases this
    · rw [if_neg e]; exact h3 t ht
  · exact (set_iff hj).2 (.inr (h4 t ht k hk))
theorem AnyY.virt {Y : Array Bool} {G : Env} {H : Hp} {nx : Nat} (hok : yOK ops N = true) (i : Nat) {o : Oper} {p : PV} (ho : ops[i]? = some o) (hp : ∀ H nx, OpS P o true G H nx p H nx) (hs : (Region.ready .any ops Y).contains i = true) (hYs : Y.size = ops.size) (hG : ∀ t, o.dst = some t → look G t = none)
    (h : AnyY P ops N C Q (Y.setIfInBounds i true) (gput G o.dst p) H nx) : AnyY P ops N C Q Y G H nx := by
  have hgd := yOK_spec hok
  have hir : i ∈ Region.ready .any ops Y := by simpa using hs
  obtain ⟨hn0, o', ho', hrd⟩ := mem_ready.1 hir
  rw [ho] at ho'; cases ho'
  have hin : i < ops.size := (Array.getElem?_eq_some_iff.1 ho).1
  have hYi : Y.getD i false = false := by
    have : i < Y.size := by rw [hYs]; exact hin
    simpa [Array.getD, this] using hn0
  have hdi : dstOf ops i = o.dst := by unfold dstOf; rw [ho]; rfl
  intro r fuel X a w hX hXY hV hf h1 h2 ⟨S, m, hm, hsl⟩
  have hset := fun j => set_iff (X := Y) (i := i) (j := j) (by rw [hYs]; exact hin)
  refine h r fuel X a w hX (fun j hj => (hset j).2 (.inr (hXY j hj))) (fun j hj hx => ?_) hf h1 h2 ⟨S, m, hm, fun t q hq hn => ?_⟩
  · rcases (hset j).1 hj with rfl | hj
    · have hno : ∀ t ∈ opTmps o, look (gput G o.dst p) t = look G t := fun t ht => by
        rw [look_gput, if_neg]
        intro e
        obtain ⟨ed, he, hb, hon⟩ := hgd.read j j o t ho (hdi.trans e) ht
        have := hgd.back j o ed ho he hb
        omega
      refine ⟨o, p, ho, fun H nx => ⟨fun C S m a w hm hg hr => (hp H nx).runE C S m a w hm hg fun t q ht hq => hr t q ht (by rw [hno t ht]; exact hq)⟩, fun d hd => by rw [look_gput, if_pos hd], fun t ht k hk => ?_⟩
      obtain ⟨ed, he, hb, hon⟩ := hgd.read j k o t ho hk ht
      have := hrd ed he hb
      rw [hon] at this
      exact (hset k).2 (.inr this)
    · exact virt_more (by rw [hYs]; exact hin) hdi hYi hG (hV j hj hx)
  · rw [look_gput] at hq
    by_cases e : o.dst = some t
    · exact absurd (hdi.trans e) (hn i ((hset i).2 (.inl rfl)) (by
        cases hx : X.getD i false with
        | false => rfl
        | true => rw [hXY i hx] at hYi; cases hYi))
    · rw [if_neg e] at hq
      exact hsl t q hq fun j hj hx => hn j ((hset j).2 (.inr hj)) hx
def StepY (P : Program) (ops : Array Oper) (N : Nat) (C : Cx) (Q : Exit → Act → World → Prop) (Y : Array Bool) (G : Env) (H : Hp) (nx : Nat) (j : Nat) : Prop :=
  ∃ o p H1 nx1, ops[j]? = some o ∧ OpS P o true G H nx p H1 nx1 ∧ (∀ t, o.dst = some t → look G t = none) ∧ AnyY P ops N C Q (Y.setIfInBounds j true) (gput G o.dst p) H1 nx1
theorem filt_set : ∀ (l : List Bool) (i : Nat) (h : i < l.length), l[i] = false → ((l.set i true).filter (!·)).length + 1 ≤ (l.filter (!·)).length := by
  intro l
  induction l with
  | nil => intro i h; simp at h
  | cons b l ih =>
    intro i h hb
    cases i with
    | zero => simp at hb; subst hb; simp
    | succ i =>
      simp only [List.set_cons_succ, List.filter_cons]
      have := ih i (by simpa using h) (by simpa using hb)
      cases b <;> simp <;> omega
theorem some_ready (hgd : YOk ops N) {X : Array Bool} (hX : X.size = ops.size) (hr : Region.ready .any ops X = []) : ∀ i, i < ops.size → X.getD i false = true := by
  intro i
  induction i using Nat.strongRecOn with
  | _ i ih =>
    intro hi
    cases hx : X.getD i false with
    | true => rfl
    | false =>
      have : i ∈ Region.ready .any ops X := mem_ready.2 ⟨by
        have : i < X.size := by omega
        simpa [Array.getD, this] using hx, ops[i], by simp [hi], fun e he hb => by
        have := hgd.back i ops[i] e (by simp [hi]) he hb
        exact ih e.on this (by omega)⟩
      rw [hr] at this; cases this
theorem AnyY.step {Y : Array Bool} {G : Env} {H : Hp} {nx : Nat} {L : List Nat} (hok : yOK ops N = true) (hYs : Y.size = ops.size) (hr : Region.ready .any ops Y = L) (h0 : L = [] → Next C N G H nx (Q .normal)) (h : ∀ j ∈ L, StepY P ops N C Q Y G H nx j) : AnyY P ops N C Q Y G H nx := by
  have hgd := yOK_spec hok
  intro r fuel
  induction fuel with
  | zero =>
    intro X a w hX hXY hV hf h1 h2 ⟨S, m, hm, hsl⟩
    have hall : ∀ i, i < ops.size → X.getD i false = true := fun i hi => by
      have hi' : i < X.toList.length := by simpa [hX] using hi
      cases hx : X.getD i false with
      | true => rfl
      | false =>
        have hxi : X.toList[i] = false := by
          have : i < X.size := by omega
          simpa [Array.getD, this] using hx
        have := filt_set X.toList i hi' hxi
        omega
    have hrX : Region.ready .any ops X = [] := List.eq_nil_iff_forall_not_mem.2 fun i hi => by
      obtain ⟨g1, o, g2, _⟩ := mem_ready.1 hi
      have hin := (Array.getElem?_eq_some_iff.1 g2).1
      have := hall i hin
      have hi2 : i < X.size := by omega
      simp [Array.getD, hi2] at g1 this
      rw [this] at g1; cases g1
    have hL : L = [] := by
      rw [← hr]
      exact List.eq_nil_iff_forall_not_mem.2 fun i hi => by
        obtain ⟨g1, o, g2, _⟩ := mem_ready.1 hi
        have hin := (Array.getElem?_eq_some_iff.1 g2).1
        have := hXY i (hall i hin)
        have hi2 : i < Y.size := by omega
        simp [Array.getD, hi2] at g1 this
        rw [this] at g1; cases g1
    refine ⟨hrX, h0 hL a w ⟨h1, h2, S, m, hm, fun t q hq => hsl t q hq fun i hi hx => ?_⟩⟩
    intro hd
    have hin : i < ops.size := by
      unfold dstOf at hd
      obtain ⟨oj, g1, _⟩ := Option.bind_eq_some_iff.1 hd
      exact (Array.getElem?_eq_some_iff.1 g1).1
    rw [hall i hin] at hx; cases hx
  | succ fuel ih =>
    intro X a w hX hXY hV hf h1 h2 ⟨S, m, hm, hsl⟩
    refine ⟨fun hrX => ?_, fun i hi => ?_⟩
    · have hall := some_ready hgd hX hrX
      have hL : L = [] := by
        rw [← hr]
        exact List.eq_nil_iff_forall_not_mem.2 fun i hi => by
          obtain ⟨g1, o, g2, _⟩ := mem_ready.1 hi
          have hin := (Array.getElem?_eq_some_iff.1 g2).1
          have := hXY i (hall i hin)
          have hi2 : i < Y.size := by omega
          simp [Array.getD, hi2] at g1 this
          rw [this] at g1; cases g1
      refine h0 hL a w ⟨h1, h2, S, m, hm, fun t q hq => hsl t q hq fun i hi hx => ?_⟩
      intro hd
      have hin : i < ops.size := by
        unfold dstOf at hd
        obtain ⟨oj, g1, _⟩ := Option.bind_eq_some_iff.1 hd
        exact (Array.getElem?_eq_some_iff.1 g1).1
      rw [hall i hin] at hx; cases hx
    · obtain ⟨hn0, o, ho, hrd⟩ := mem_ready.1 hi
      have hin : i < ops.size := (Array.getElem?_eq_some_iff.1 ho).1
      have hiX : i < X.size := by omega
      have hx : X.getD i false = false := by simpa [Array.getD, hiX] using hn0
      have hset := fun j => set_iff (X := X) (i := i) (j := j) hiX
      have hdi : dstOf ops i = o.dst := by unfold dstOf; rw [ho]; rfl
      have hfu : ((X.setIfInBounds i true).toList.filter (!·)).length ≤ fuel := by
        rw [show (X.setIfInBounds i true).toList = X.toList.set i true by simp]
        have := filt_set X.toList i (by simpa using hiX) (by simpa [Array.getD, hiX] using hx)
        omega
      have hopd : ∀ t q, t ∈ opTmps o → look G t = some q → RepAt w S m a t q := fun t q ht hq => hsl t q hq fun j hj hxj hd => by
        obtain ⟨e, he, hb, hon⟩ := hgd.read i j o t ho hd ht
        have := hrd e he hb
        rw [hon, hxj] at this; cases this
      unfold wpOpIn
      simp only [ho]
      rw [if_pos (by simp [Region.wanted, hgd.grd i o ho])]
      by_cases hY : Y.getD i false = true
      · obtain ⟨o', p, g1, g2, g3, g4⟩ := hV i hY hx
        rw [ho] at g1; cases g1
        refine (g2 H nx).run C S m a w hm rfl hopd _ _ fun v w' S' m' hm' hle hv => ?_
        refine ih (X.setIfInBounds i true) (a.put o.dst v) w' (by rw [setSize]; exact hX) (fun j hj => ?_) (fun j hj hxj => hV j hj ?_) hfu (by rw [put_defers]; exact h1) (by rw [put_size]; exact h2) ⟨S', m', hm', fun t q hq hn => ?_⟩
        · rcases (hset j).1 hj with rfl | hj
          · exact hY
          · exact hXY j hj
        · cases hb : X.getD j false with
          | false => rfl
          | true => rw [(hset j).2 (.inr hb)] at hxj; cases hxj
        · by_cases hd : o.dst = some t
          · have := g3 t hd
            rw [hq] at this; cases this
            rw [hd]
            exact ⟨v, put_self (by rw [h2]; exact hgd.dst i o t ho hd), hv⟩
          · obtain ⟨u, hu, hr2⟩ := hsl t q hq fun j hj hxj hdj => by
              by_cases hji : j = i
              · subst hji; exact hd (hdi.symm.trans hdj)
              · refine hn j hj ?_ hdj
                cases hb : (X.setIfInBounds i true).getD j false with
                | false => rfl
                | true => rcases (hset j).1 hb with e | e
                          · exact absurd e hji
                          · rw [e] at hxj; cases hxj
            exact ⟨u, (put_at hd).trans hu, hr2.mono hle⟩
      · have hYf : Y.getD i false = false := by simpa using hY
        have hiL : i ∈ L := by
          rw [← hr]
          refine mem_ready.2 ⟨?_, o, ho, fun e he hb => hXY _ (hrd e he hb)⟩
          have : i < Y.size := by omega
          simpa [Array.getD, this] using hYf
        obtain ⟨o', p, H1, nx1, g1, g2, g3, g4⟩ := h i hiL
        rw [ho] at g1; cases g1
        refine g2.run C S m a w hm rfl hopd _ _ fun v w' S' m' hm' hle hv => ?_
        have hsetY := fun j => set_iff (X := Y) (i := i) (j := j) (by omega)
        refine g4 r fuel (X.setIfInBounds i true) (a.put o.dst v) w' (by rw [setSize]; exact hX) (fun j hj => ?_) (fun j hj hxj => ?_) hfu (by rw [put_defers]; exact h1) (by rw [put_size]; exact h2) ⟨S', m', hm', fun t q hq hn => ?_⟩
        · rcases (hset j).1 hj with rfl | hj
          · exact (hsetY j).2 (.inl rfl)
          · exact (hsetY j).2 (.inr (hXY j hj))
        · have hxf : X.getD j false = false := by
            cases hb : X.getD j false with
            | false => rfl
            | true => rw [(hset j).2 (.inr hb)] at hxj; cases hxj
          rcases (hsetY j).1 hj with rfl | hj
          · rw [(hset j).2 (.inl rfl)] at hxj; cases hxj
          · exact virt_more (by omega) hdi hYf g3 (hV j hj hxf)
        · rw [look_gput] at hq
          by_cases hd : o.dst = some t
          · rw [if_pos hd] at hq; cases hq
            rw [hd]
            exact ⟨v, put_self (by rw [h2]; exact hgd.dst i o t ho hd), hv⟩
          · rw [if_neg hd] at hq
            obtain ⟨u, hu, hr2⟩ := hsl t q hq fun j hj hxj hdj => by
              by_cases hji : j = i
              · subst hji; exact hd (hdi.symm.trans hdj)
              · refine hn j ((hsetY j).2 (.inr hj)) ?_ hdj
                cases hb : (X.setIfInBounds i true).getD j false with
                | false => rfl
                | true => rcases (hset j).1 hb with e | e
                          · exact absurd e hji
                          · rw [e] at hxj; cases hxj
            exact ⟨u, (put_at hd).trans hu, hr2.mono hle⟩
theorem draw_y {r : Option Nat} {id : Nat} {l : List Oper} {G : Env} {H : Hp} {nx : Nat} (G1 : Env) (H1 : Hp) (nx1 : Nat) (hm : P.follows .mixedOrders = true) (h : Next C N G1 H1 nx1 (Q .normal) → AnyY P l.toArray N C Q (Array.replicate l.toArray.size false) G H nx) (hK : Next C N G1 H1 nx1 (Q .normal)) : Next C N G H nx ((Code.region id l.toArray true).wpM r P Q) := by
  intro a w hR
  obtain ⟨S, m, hmem, hslots⟩ := hR.mem
  have hle : Le S m w S m { w with drawn := w.drawn + 1 } := ⟨fun _ h => h, fun _ _ => rfl, fun _ _ h => h, fun _ _ h => h⟩
  have hfalse : ∀ i, (Array.replicate (l.toArray).size false).getD i false = false := fun i => by
    by_cases h : i < l.length <;> simp [Array.getD, h]
  exact wpIn_region_any hm (h hK _ _ _ _ _ (by simp) (fun _ h => h) (fun i hi => by rw [hfalse] at hi; cases hi) (by simp) hR.defers hR.size ⟨S, m, hmem.drew, fun t q hq _ => (hslots t q hq).mono hle⟩)
theorem StepY.mk {Y : Array Bool} {G : Env} {H : Hp} {nx j : Nat} {o : Oper} {p : PV} {H1 : Hp} {nx1 : Nat} (h1 : ops[j]? = some o) (h2 : OpS P o true G H nx p H1 nx1) (h3 : ∀ t, o.dst = some t → look G t = none) (h4 : AnyY P ops N C Q (Y.setIfInBounds j true) (gput G o.dst p) H1 nx1) : StepY P ops N C Q Y G H nx j := ⟨o, p, H1, nx1, h1, h2, h3, h4⟩
theorem AnyY.nil {Y : Array Bool} {G : Env} {H : Hp} {nx : Nat} (hok : yOK ops N = true) (hYs : Y.size = ops.size) (hr : Region.ready .any ops Y = []) (h0 : Next C N G H nx (Q .normal)) : AnyY P ops N C Q Y G H nx := .step hok hYs hr (fun _ => h0) fun j hj => by cases hj
theorem AnyY.one {Y : Array Bool} {G : Env} {H : Hp} {nx : Nat} (i : Nat) (hok : yOK ops N = true) (hYs : Y.size = ops.size) (hr : Region.ready .any ops Y = [i]) (h : StepY P ops N C Q Y G H nx i) : AnyY P ops N C Q Y G H nx := .step hok hYs hr (fun e => by cases e) fun j hj => by simp at hj; subst hj; exact h
theorem AnyY.two {Y : Array Bool} {G : Env} {H : Hp} {nx : Nat} (i j : Nat) (hok : yOK ops N = true) (hYs : Y.size = ops.size) (hr : Region.ready .any ops Y = [i, j]) (h : StepY P ops N C Q Y G H nx i) (h2 : StepY P ops N C Q Y G H nx j) : AnyY P ops N C Q Y G H nx := .step hok hYs hr (fun e => by cases e) fun k hk => by
  simp at hk; rcases hk with rfl | rfl
  · exact h
  · exact h2
theorem AnyY.three {Y : Array Bool} {G : Env} {H : Hp} {nx : Nat} (i j k : Nat) (hok : yOK ops N = true) (hYs : Y.size = ops.size) (hr : Region.ready .any ops Y = [i, j, k]) (h : StepY P ops N C Q Y G H nx i) (h2 : StepY P ops N C Q Y G H nx j) (h3 : StepY P ops N C Q Y G H nx k) : AnyY P ops N C Q Y G H nx := .step hok hYs hr (fun e => by cases e) fun l hl => by
  simp at hl; rcases hl with rfl | rfl | rfl
  · exact h
  · exact h2
  · exact h3
theorem AnyY.toRefs {Y : Array Bool} {G : Env} {H : Hp} {nx : Nat} (id : Nat) {sz : Nat} {rows : List (List FV)} {rows' : List (List PV)} (hl : hlook H id = some (.flat sz rows)) (hr : (rows.map fun r => r.map PV.fz) = rows') (h : AnyY P ops N C Q Y G ((id, some (.refs sz rows')) :: H) nx) : AnyY P ops N C Q Y G H nx := by
  subst hr
  intro r fuel X a w h1 h2 h3 h4 h5 h6 ⟨S, m, hm, hsl⟩
  exact h r fuel X a w h1 h2 h3 h4 h5 h6 ⟨S, m, hm.retell hl ORep.toRefs (no_own plain_map), hsl⟩
end
end Go.RT
/- Short names of rules. -/
namespace Go.RT
theorem oT {G : Env} {g : Bool} {t : Tmp} {p : PV} (h : look G t = some p) : Opd G g (.tmp t) p := .tmp t p h
theorem oO {G : Env} {g : Bool} {t : Tmp} {p : PV} {g' : Bool} (h : look G t = some (.opt g' p)) (h2 : g = true → g' = true) : Opd G g (.tmp t) p := .topt t p g' h h2
theorem oC {G : Env} {g : Bool} {v : Value} : Opd G g (.const v) (.fz (.lit v)) := .const v
theorem oS {G : Env} {g : Bool} {x : Operand} {xs : List Operand} {p : PV} {ps : List PV} (h : Opd G g x p) (k : Opds G g xs ps) : Opds G g (x :: xs) (p :: ps) := .cons x xs p ps h k
theorem rpZ (d : Nat) {P : Program} {ops : Array Oper} {F : List Kd → Env → Hp → Nat → Prop} {o : Oper} {rest : List Oper} {G : Env} {H : Hp} {nx : Nat} {ks : List Kd} {p : PV} (h1 : (o.guard, o.dst) = (none, some d)) (h : ∀ H nx, OpS P o true G H nx p H nx) (tl : Run P ops F rest (gput G (some d) p) H nx (.p :: ks)) : Run P ops F (o :: rest) G H nx ks := .pure (congrArg Prod.fst h1) (congrArg Prod.snd h1) h tl
theorem rgZ (e : Nat) {P : Program} {ops : Array Oper} {F : List Kd → Env → Hp → Nat → Prop} {o : Oper} {rest : List Oper} {G : Env} {H : Hp} {nx : Nat} {ks : List Kd} {p : PV} {j : Nat} {b g : Bool} {d : Tmp} (h1 : (o.guard, o.dst) = (some (j, b), some e)) (hd : dstOf ops j = some d) (hl : Grd G d b g) (h : ∀ H nx, OpS P o g G H nx p H nx) (tl : Run P ops F rest (gput G (some e) (.opt g p)) H nx (.p :: ks)) : Run P ops F (o :: rest) G H nx ks := .pureG (congrArg Prod.fst h1) (congrArg Prod.snd h1) hd hl h tl
theorem rlZ (d : Nat) {P : Program} {ops : Array Oper} {F : List Kd → Env → Hp → Nat → Prop} {o : Oper} {rest : List Oper} {G : Env} {H : Hp} {nx : Nat} {ks : List Kd} {p : PV} {L : List Nat} (h1 : (o.guard, o.dst) = (none, some d)) (h : OpL P o true G H L p) (tl : Run P ops F rest (gput G (some d) p) H nx (.l L :: ks)) : Run P ops F (o :: rest) G H nx ks := .load (congrArg Prod.fst h1) (congrArg Prod.snd h1) h tl
theorem rkZ (e : Nat) {P : Program} {ops : Array Oper} {F : List Kd → Env → Hp → Nat → Prop} {o : Oper} {rest : List Oper} {G : Env} {H : Hp} {nx : Nat} {ks : List Kd} {p : PV} {j : Nat} {b g : Bool} {d : Tmp} {L : List Nat} (h1 : (o.guard, o.dst) = (some (j, b), some e)) (hd : dstOf ops j = some d) (hl : Grd G d b g) (h : OpL P o g G H L p) (tl : Run P ops F rest (gput G (some e) (.opt g p)) H nx (.l L :: ks)) : Run P ops F (o :: rest) G H nx ks := .loadG (congrArg Prod.fst h1) (congrArg Prod.snd h1) hd hl h tl
theorem rmZ (d : Nat) {P : Program} {ops : Array Oper} {F : List Kd → Env → Hp → Nat → Prop} {o : Oper} {rest : List Oper} {G : Env} {H : Hp} {nx : Nat} {ks : List Kd} {p : PV} {t : Tmp} (h1 : (o.guard, o.dst) = (none, some d)) (ho : o.op = .move (.tmp t)) (hl : look G t = some p) (tl : Run P ops F rest (gput G (some d) p) H nx (.p :: ks)) : Run P ops F (o :: rest) G H nx ks := .pure (congrArg Prod.fst h1) (congrArg Prod.snd h1) (op_move ho (.tmp t p hl)) tl
theorem raZ (d : Nat) {P : Program} {ops : Array Oper} {F : List Kd → Env → Hp → Nat → Prop} {o : Oper} {rest : List Oper} {G : Env} {H : Hp} {nx : Nat} {ks : List Kd} {p : PV} {t : Tmp} (h1 : (o.guard, o.dst) = (none, some d)) (ho : o.op = .assign (.tmp t)) (hl : look G t = some p) (tl : Run P ops F rest (gput G (some d) p) H nx (.p :: ks)) : Run P ops F (o :: rest) G H nx ks := .pure (congrArg Prod.fst h1) (congrArg Prod.snd h1) (op_assign ho (.tmp t p hl)) tl
theorem gmZ (e : Nat) {P : Program} {ops : Array Oper} {F : List Kd → Env → Hp → Nat → Prop} {o : Oper} {rest : List Oper} {G : Env} {H : Hp} {nx : Nat} {ks : List Kd} {p : PV} {t : Tmp} {j : Nat} {b g : Bool} {d : Tmp} (h1 : (o.guard, o.dst) = (some (j, b), some e)) (hd : dstOf ops j = some d) (hl : Grd G d b g) (ho : o.op = .move (.tmp t)) (hk : look G t = some p) (tl : Run P ops F rest (gput G (some e) (.opt g p)) H nx (.p :: ks)) : Run P ops F (o :: rest) G H nx ks := .pureG (congrArg Prod.fst h1) (congrArg Prod.snd h1) hd hl (op_move ho (.tmp t p hk)) tl
theorem rnZ {P : Program} {ops : Array Oper} {C : Cx} {N : Nat} {l : List Oper} {K : Act → World → Prop} {G : Env} {H : Hp} {nx : Nat} {ks : List Kd} (h : Next C N G H nx K) : Run P ops (FinR C N l K) [] G H nx ks := .nil (.mk h)
open Go
section
variable {r : Option Nat} {P : Program} {C : Cx} {N : Nat} {G : Env} {H : Hp} {nx : Nat} {Q : Exit → Act → World → Prop} {K : Act → World → Prop}
/-- two ways that meet again: the state where they meet is told -/
theorem n_join {x : Code} (G' : Env) (H' : Hp) (n' : Nat) (h1 : Next C N G H nx (x.wpM r P (Exit.then (fun a w => Rel C N G' H' n' a w) Q))) (h2 : Next C N G' H' n' K) : Next C N G H nx (x.wpM r P (Exit.then K Q)) := fun a w hr =>
  Go.wpIn_mono (h1 a w hr) (fun e a' w' hq => by
    cases e with
    | normal => exact h2 a' w' hq
    | _ => exact hq)
end
open Go
section
variable {r : Option Nat} {P : Program} {C : Cx} {N : Nat} {G : Env} {H : Hp} {nx : Nat} {Q : Exit → Act → World → Prop} {K : Act → World → Prop}
end
end Go.RT
/- The engine, part 36: four results; the greatest of six numbers. -/
namespace Go.RT
open Go
set_option linter.all false
section
variable {P : Program} {C : Cx} {N : Nat} {G : Env} {H : Hp} {nx : Nat}
theorem rep_tup4 {w : World} {S : Nat → Prop} {m : Ids} {v1 v2 v3 v4 : Value} {f1 f2 f3 f4 : FV} (h1 : Rep w S m v1 (.fz f1)) (h2 : Rep w S m v2 (.fz f2)) (h3 : Rep w S m v3 (.fz f3)) (h4 : Rep w S m v4 (.fz f4)) : Rep w S m (.tuple #[v1, v2, v3, v4]) (.fz (.tup [f1, f2, f3, f4])) := by
  cases h1 with | fz _ _ h1 => cases h2 with | fz _ _ h2 => cases h3 with | fz _ _ h3 => cases h4 with | fz _ _ h4 =>
  refine .fz _ _ (.tup _ _ rfl fun i c f hc hf => ?_)
  match i with
  | 0 => simp at hc hf; subst hc; subst hf; exact h1
  | 1 => simp at hc hf; subst hc; subst hf; exact h2
  | 2 => simp at hc hf; subst hc; subst hf; exact h3
  | 3 => simp at hc hf; subst hc; subst hf; exact h4
  | i + 4 => simp at hf
theorem s_o4 {fn : Func} {f1 f2 f3 f4 : FV} {rv1 rv2 rv3 rv4 : ResultVar} (hC : C.n0 = 0) (hres : fn.results = #[rv1, rv2, rv3, rv4]) (h : RV P G H rv1 f1) (h' : RV P G H rv2 f2) (h'' : RV P G H rv3 f3) (h''' : RV P G H rv4 f4) : Next C N G H nx (Out P fn C (.fz (.tup [f1, f2, f3, f4])) [] 0 .ret) :=
  s_ofin hC fun S m a w hm hsl => by
    obtain ⟨v1, h2, h1⟩ := h.run hm hsl
    obtain ⟨v2, h4, h3⟩ := h'.run hm hsl
    obtain ⟨v3, h6, h5⟩ := h''.run hm hsl
    obtain ⟨v4, h8, h7⟩ := h'''.run hm hsl
    refine ⟨.tuple #[v1, v2, v3, v4], ?_, (rep_tup4 (m := m) (.fz _ _ h2) (.fz _ _ h4) (.fz _ _ h6) (.fz _ _ h8)).frz⟩
    rcases h1 with ⟨r, rfl, e1⟩ | ⟨r, t, ad, rfl, e1, e2⟩ <;> rcases h3 with ⟨r', rfl, e3⟩ | ⟨r', t', ad', rfl, e3, e4⟩ <;> rcases h5 with ⟨r'', rfl, e5⟩ | ⟨r'', t'', ad'', rfl, e5, e6⟩ <;> rcases h7 with ⟨r3, rfl, e7⟩ | ⟨r3, t3, ad3, rfl, e7, e8⟩ <;> simp [results, hres, asAddr, *]
end
section
variable {P : Program} {o : Oper} {g : Bool} {G : Env} {x1 x2 x3 x4 x5 x6 : Operand} {k : IntKind} {a b c d e f : Int}
end
end Go.RT
/- The engine, part 37: results that hand out owned objects out of cells; look-ups in frozen maps. -/
namespace Go.RT
open Go
open Go.ChangeMaps (setBlock)
set_option linter.all false
variable {P : Program} {G : Env} {H : Hp} {nx : Nat} {C : Cx} {N : Nat} {t t' : TypeId} {x y : Operand} {o : Oper} {g : Bool}
/-- a result variable, as it stands -/
inductive RVP (P : Program) (G : Env) (H : Hp) : ResultVar → PV → Prop where
  | tmp (r : Tmp) (p : PV) : look G r = some p → RVP P G H (.tmp r) p
  | cell (r : Tmp) (t : TypeId) (id sz by_ : Nat) (z : Value) (ps : List PV) : TyA P t true → TyN P t sz by_ z → look G r = some (.ptr id sz 0 0) → hlook H id = some (.refs sz [ps]) → RVP P G H (.cell r t) (.agg ps)
theorem RVP.run {rv : ResultVar} {f : PV} {S : Nat → Prop} {m : Ids} {a : Act} {w : World} (h : RVP P G H rv f) (hm : Mem C H nx S m w) (hsl : ∀ t q, look G t = some q → RepAt w S m a t q) :
    ∃ v, Rep w S m v f ∧ ((∃ r, rv = .tmp r ∧ a.tmps[r]?.getD undef = v) ∨ ∃ r t ad, rv = .cell r t ∧ a.tmps[r]?.getD undef = .pointer (some ad) ∧ (loadVar t ad).run P w = .ok v w) := by
  cases h with
  | tmp r f hl =>
    obtain ⟨v, hv, hr⟩ := hsl r _ hl
    exact ⟨v, hr, .inl ⟨r, rfl, by simp [hv]⟩⟩
  | cell r t id sz by_ z ps h1 h2 hl hh =>
    obtain ⟨v, hv, hr⟩ := hsl r _ hl
    cases hr with
    | ptr _ _ _ _ b hb =>
      rcases hm.objs id _ hh with ⟨k1, _⟩ | ⟨b', c, e, k1, hc, k3, k4, k5⟩
      · rw [hb] at k1; cases k1
      · rw [hb] at k1; cases k1
        obtain ⟨us, hul, hcc, hrr⟩ := cells_list (w := w) (b := b) (off := 0) (R := Rep w S m) (fs := ps) fun j f hf => by
          obtain ⟨u, hu, ho1, hp⟩ := k5 0 j ps f rfl hf
          exact ⟨u, own_cell hc (by simpa using hu), ho1, hp⟩
        have hfl : ps.length = sz := k4 ps (by simp)
        have := run_loadn (P := P) (t := t) (w := w) (ad := ⟨b, 0, none⟩) (by rw [hul, hfl]) (fun j u hu => (hcc j u hu).1)
        exact ⟨.agg us.toArray, .agg _ _ (by simpa using hul) (fun j u f hu hf => hrr j u f (by simpa using hu) hf) (fun j u hu => (hcc j u (by simpa using hu)).2), .inr ⟨r, t, _, rfl, by simp [hv], this⟩⟩
theorem tVP {α : Prop} (h : α := by first | exact RVP.tmp _ _ rfl | exact RVP.cell _ _ _ _ _ _ _ inferInstance inferInstance rfl rfl) : α := h
/-- one result, with the objects L handed out and those of F frozen -/
theorem n_outW1 {fn : Func} {rv : ResultVar} {p q : PV} {Hout : Hp} {n' : Nat} (L F : List Nat) (hres : fn.results = #[rv]) (h1 : RVP P G H rv p) (hnd : nodupB ((keysH Hout).map (renI L)) = true) (hk : keeps C L) (hH : EntH L F H Hout) (hFH : ∀ id, F.contains id = true → ∃ o, hlook H id = some o)
    (e1 : EntV L F H p q) (hn : L.length = n') : Next C N G H nx (Out P fn C q Hout n' .ret) := by
  subst hn
  intro a w hr
  obtain ⟨S, m, hm, hsl⟩ := hr.mem
  obtain ⟨v, h2, h3⟩ := h1.run hm hsl
  obtain ⟨k1, k2⟩ := hm.weak hnd hk hH hFH
  refine fun hdf => ⟨hr.defers.trans hdf, v, ?_, v, _, _, rfl, k1, k2 v _ _ h2 e1⟩
  rcases h3 with ⟨r, rfl, e1⟩ | ⟨r, t, ad, rfl, e1, e2⟩ <;> simp [results, hres, asAddr, *]
section maps
variable {κ ν : Type} [DecidableEq κ] {ek : κ → FV} {ev : ν → FV} {okK : κ → Prop} {kt et : TypeId}
end maps
end Go.RT
/- The engine, part 38: literals whose missing slices are read as empty ones. -/
namespace Go.RT
open Go
set_option linter.all false
variable {P : Program} {G : Env} {t : TypeId} {o : Oper} {g : Bool}
/-- the cells of a zero value; a nil slice may be read as an empty one -/
def zOk : List Value → List FV → Prop
  | [], [] => True
  | u :: us, f :: fs => (f = .lit u ∨ ∃ sz, u = .slice none 0 0 ∧ f = .vals sz []) ∧ zOk us fs
  | _, _ => False
theorem zOk.len : ∀ {us : List Value} {fs : List FV}, zOk us fs → us.length = fs.length
  | [], [], _ => rfl
  | _ :: _, _ :: _, h => by simp [zOk.len h.2]
theorem zOk.at : ∀ {us : List Value} {fs : List FV}, zOk us fs → ∀ (i : Nat) (f : FV), fs[i]? = some f → ∃ u, us[i]? = some u ∧ (f = .lit u ∨ ∃ sz, u = .slice none 0 0 ∧ f = .vals sz [])
  | [], [], _, i, f, h => by simp at h
  | u :: us, f' :: fs, h, i, f, hf => by
    cases i with
    | zero => simp at hf; subst hf; exact ⟨u, rfl, h.1⟩
    | succ i => simpa using zOk.at h.2 i f (by simpa using hf)
theorem zOk.rep {z : Value} {zs : List FV} (h : zOk z.cells.toList zs) (h1 : z.cells.toList.all (·.oneCell') = true) (w : World) (S : Nat → Prop) : ARep (FRep w S) z.cells zs := by
  refine ⟨by simpa using h.len, fun i p hp => ?_⟩
  obtain ⟨u, hu, hq⟩ := h.at i p hp
  rw [Array.getElem?_toList] at hu
  refine ⟨u, hu, List.all_eq_true.1 h1 u (Array.mem_toList_iff.2 (Array.mem_of_getElem? hu)), ?_⟩
  rcases hq with rfl | ⟨sz, rfl, rfl⟩
  · exact .lit _
  · exact .nil _ _ _
theorem op_buildZ {places : List (Nat × Nat)} {n by_ : Nat} {z : Value} {cs : List FV} {parts : List (Nat × Operand)} (zs : List FV) [hb : TyB P t places] [hn : TyN P t n by_ z] (ho : o.op = .build t parts.toArray) (h1 : z.cells.toList.all (·.oneCell') = true) (hz : zOk z.cells.toList zs) (hf : FillF places G g parts zs cs) : OpP P o g G (.fz (.agg cs)) :=
  .of fun S m a w hg ha => by
    obtain ⟨fs, e1, e2⟩ := hb.h
    obtain ⟨A, k1, k2, k3⟩ := hf.run hg ha (fun p hp => by simp only [ho, Op.operands, List.mem_toArray]; exact List.mem_map.2 ⟨p, by simpa using hp, rfl⟩) _ (hz.rep h1 w S)
    refine ⟨.agg A, ?_, .fz _ _ (.agg A cs k2 (fun i c f hc hf => ?_) (fun i c hc => ?_))⟩
    · have : (parts.toArray.map fun p => (p.1, a.eval p.2)).toList = parts.map fun p => (p.1, a.eval p.2) := by simp
      simp [execOp, ho, Instr.build, run_zero hn, run_underlying e1, e2, k1]
    · obtain ⟨u, hu, _, hr⟩ := k3 i f hf
      rw [hc] at hu; cases hu; exact hr
    · have hi : i < cs.length := by rw [← k2]; exact (Array.getElem?_eq_some_iff.1 hc).1
      obtain ⟨u, hu, hone, _⟩ := k3 i cs[i] (by simp [hi])
      rw [hc] at hu; cases hu; exact hone
end Go.RT
/- Loops over functions: the record and the marks as owned raw objects; calls of yield; rounds. -/
namespace Go.RT
open Go
set_option linter.all false
def noC : Obj → Bool
  | .cells .. => false
  | _ => true
theorem room_noC {w : World} {b n : Nat} {x : Obj} (h : w.heap[b]? = some x) (hx : noC x = true) : ¬ roomIs w b n := fun ⟨c, e, fr, h1, _⟩ => by
  rw [h] at h1; cases h1; simp [noC] at hx
section
variable {C : Cx} {H : Hp} {nx : Nat} {S : Nat → Prop} {m : Ids} {w : World}
theorem Mem.raw (hm : Mem C H nx S m w) {id : Nat} {x : Obj} (hl : hlook H id = some (.raw x)) : ∃ b, m id = some (some b) ∧ w.heap[b]? = some x := hm.objs id _ hl
end

/-! ## calls of yield -/
/-- the doer: yield, handed ahead of its arguments -/
def DY (P : Program) (vs : Array Value) (w : World) (R : Ending → World → Prop) : Prop :=
  ∃ l, vs[0]? = some (.func (.yield l) #[] #[]) ∧ YieldAt Fence.wide 0 P l (vs.toList.drop 1).toArray w R
theorem DY.mono {P : Program} (vs : Array Value) (w : World) (R R' : Ending → World → Prop) (h : DY P vs w R) (hr : ∀ e w', R e w' → R' e w') : DY P vs w R' := by
  obtain ⟨l, h1, fn, tmps, assign, body, h2, h3⟩ := h
  exact ⟨l, h1, fn, tmps, assign, body, h2, h3.mono hr⟩
section
variable {P : Program} {o : Oper} {g : Bool} {G : Env} {H : Hp} {nx : Nat}
end
end Go.RT
/- Rounds. -/
namespace Go.RT
open Go
set_option linter.all false
section
variable {P : Program} {C : Cx} {N : Nat} {G : Env} {H : Hp} {nx : Nat} {Q : Exit → Act → World → Prop}
end
end Go.RT
/- A loop over a function: its statement, what follows it, and a function's end with its mark. -/
namespace Go.RT
open Go
set_option linter.all false
/-- C' is C from behind a loop on: the mark D is pending -/
structure After (C C' : Cx) (D : Nat) : Prop where
  df : C'.df = { target := .collected D, args := #[] } :: C.df
  n0 : C'.n0 = C.n0
  m0 : C'.m0 = C.m0
  own : ∀ b, C'.own0 b ↔ (C.w0.heap.size ≤ b ∨ C.own0 b) ∧ b ≠ D
  base : ∃ H nx m, Mem C H nx C'.S0 m C'.w0
  at_ : C'.w0.heap[D]? = some (.deferred (some []))
  notS : ¬ C'.S0 D
  new : C.w0.heap.size ≤ D
section
variable {P : Program} {C C' : Cx} {D N : Nat} {G : Env} {H : Hp} {nx : Nat} {S : Nat → Prop} {m : Ids} {w : World} {Q : Exit → Act → World → Prop}
theorem After.lt (h : After C C' D) : D < C'.w0.heap.size := (Array.getElem?_eq_some_iff.1 h.at_).1
theorem After.still (h : After C C' D) (hm : Mem C' H nx S m w) : w.heap[D]? = some (.deferred (some [])) ∧ ¬ S D := by
  have hno : ¬ C'.own0 D := fun e => ((h.own D).1 e).2 rfl
  refine ⟨(hm.frame D h.lt hno).trans h.at_, fun hs => ?_⟩
  rcases hm.sub D hs with k | k | k
  · exact h.notS k
  · exact hno k
  · have := h.lt; omega
/-- seen from the beginning, with the mark's block taken -/
theorem After.back (h : After C C' D) (hm : Mem C' H nx S m w) (y : Obj) (hy : noC y = true) : Mem C H nx S m (w.putObj D y) ∧ Le S m w S m (w.putObj D y) := by
  obtain ⟨H0, nx0, m0', hb⟩ := h.base
  obtain ⟨hD, hnS⟩ := h.still hm
  have hDlt : D < w.heap.size := Nat.lt_of_lt_of_le h.lt hm.size
  have hother : ∀ k, k ≠ D → (w.putObj D y).heap[k]? = w.heap[k]? := fun k hk => World.putObj_heap_other hk
  have hsame : (w.putObj D y).heap[D]? = some y := World.putObj_heap_same hDlt
  have hx : noC (.deferred (some [])) = true := rfl
  have hle : Le S m w S m (w.putObj D y) := ⟨fun _ h => h, fun k hk => hother k (fun e => hnS (e ▸ hk)), fun _ _ h => h, fun k n hr => by
    have hk : k ≠ D := fun e => room_noC hD hx (e ▸ hr)
    obtain ⟨c, e, fr, h1, h2⟩ := hr
    exact ⟨c, e, fr, (hother k hk).trans h1, h2⟩⟩
  have hown : ∀ b, C'.w0.heap.size ≤ b ∨ C'.own0 b → (C.w0.heap.size ≤ b ∨ C.own0 b) ∧ b ≠ D := fun b hb2 => by
    rcases hb2 with k | k
    · exact ⟨.inl (Nat.le_trans hb.size k), fun e => by have := h.lt; omega⟩
    · exact (h.own b).1 k
  have hne : ∀ id o b, hlook H id = some o → m id = some (some b) → b ≠ D := fun id o b h1 h2 => (hown b (hm.blk id o b h1 h2).2.2).2
  refine ⟨⟨⟨hm.os.1.trans hb.os.1, Nat.le_trans hb.os.2 hm.os.2⟩, hm.tape.trans hb.tape, hm.output.trans hb.output, fun a ha => ?_, Nat.le_trans hb.size (by simpa using hm.size), fun b h1 h2 => ?_, ?_, fun b hs => ?_, fun i x hx => hb.n0 i x hx,
    fun id o ho => (hm.objs id o ho).mono hle fun b hb2 => hother b (hne id o b ho hb2), fun id o b h1 h2 => ?_, hm.inj, fun b hs => by simpa using hm.stab b hs, hm.fresh, ?_⟩, hle⟩
  · have hne : a.block ≠ D := fun e => by have := h.new; omega
    have h1 := hm.fz a (Nat.lt_of_lt_of_le ha hb.size)
    have h2 := hb.fz a ha
    rw [← h2, ← h1]
    simp only [World.frozen?, hother _ hne]
  · have hne : b ≠ D := fun e => by have := h.new; omega
    rw [hother b hne, hm.frame b (Nat.lt_of_lt_of_le h1 hb.size) (fun e => by
      rcases ((h.own b).1 e).1 with k | k
      · omega
      · exact h2 k)]
    exact hb.frame b h1 h2
  · have h1 : Le C.S0 C.m0 C.w0 C'.S0 C'.m0 C'.w0 := ⟨hb.le.st, hb.le.same, fun i x hx => by rw [h.m0]; exact hx, hb.le.room⟩
    exact (h1.trans hm.le).trans hle
  · rcases hm.sub b hs with k | k | k
    · exact hb.sub b k
    · rcases ((h.own b).1 k).1 with q | q
      · exact .inr (.inr q)
      · exact .inr (.inl q)
    · exact .inr (.inr (Nat.le_trans hb.size k))
  · obtain ⟨k1, k2, k3⟩ := hm.blk id o b h1 h2
    exact ⟨k1, by simpa using k2, (hown b k3).1⟩
  · obtain ⟨ib, hn⟩ := hm.nst
    refine ⟨_, hn.keep (C' := C) (fun i => i) (fun id sz i j isz irows hO => ⟨hO, rfl⟩) (fun _ _ _ _ _ _ _ _ _ _ _ _ _ _ h => h) hle.st hle.same (fun id sz i j isz irows b2 c2 e2 u hO k1 k2 k3 => ⟨c2, e2, (hother b2 (fun e => by subst e; rw [hD] at k2; cases k2)).trans k2, k3⟩) (fun id sz i j isz irows b' hO hb2 h1 h2 h3 h4 => ?_)⟩
    obtain ⟨q1, q2⟩ := hown b' h3
    exact ⟨hother b' q2, h1, by simpa using h2, q1, h4⟩
end
end Go.RT
/- The statement of a loop over a function. -/
namespace Go.RT
open Go
set_option linter.all false
section
variable {P : Program} {C : Cx} {N : Nat} {G : Env} {H : Hp} {nx : Nat} {Q : Exit → Act → World → Prop}
/-- a slot holds a closure -/
inductive CloAt (G : Env) (t : Tmp) (f : FuncId) : List PV → Prop where
  | own (caps : List PV) : look G t = some (.clo f [] caps) → CloAt G t f caps
  | fz (fs : List FV) : look G t = some (.fz (.clo f fs)) → CloAt G t f (fs.map PV.fz)
theorem CloAt.val {t : Tmp} {f : FuncId} {caps : List PV} (h : CloAt G t f caps) {S : Nat → Prop} {m : Ids} {w : World} {a : Act} (hsl : ∀ t q, look G t = some q → RepAt w S m a t q) : ∃ cs : Array Value, a.eval (.tmp t) = .func (.func f) #[] cs ∧ cs.size = caps.length ∧ ∀ (i : Nat) (c : Value) (p : PV), cs[i]? = some c → caps[i]? = some p → Rep w S m c p := by
  cases h with
  | own _ hl =>
    obtain ⟨v, hv, hr⟩ := hsl t _ hl
    cases hr with
    | clo _ as0 cs _ _ q1 q2 q3 q4 =>
      have has : as0 = #[] := by simpa using q1
      subst has
      exact ⟨cs, by simp [Act.eval, hv], q2, q4⟩
  | fz fs hl =>
    obtain ⟨v, hv, hr⟩ := hsl t _ hl
    cases hr with
    | fz _ _ hr =>
      cases hr with
      | clo _ cs _ q2 q4 =>
        refine ⟨cs, by simp [Act.eval, hv], by simpa using q2, fun i c p hc hp => ?_⟩
        rw [List.getElem?_map] at hp
        obtain ⟨q, hq, rfl⟩ := Option.map_eq_some_iff.1 hp
        exact .fz _ _ (q4 i c q hc hq)
/-- what is skipped -/
theorem op_never {o : Oper} {g : Bool} {p : PV} (h : g = false) : ∀ H nx, OpS P o g G H nx p H nx := fun H nx => ⟨fun C S m a w hm hg => by rw [h] at hg; cases hg⟩
theorem Mem.keepH {S : Nat → Prop} {m : Ids} {w : World} (hm : Mem C H nx S m w) {H' : Hp} (hH : ∀ i o, hlook H' i = some o → hlook H i = some o) : Mem C H' nx S m w :=
  hm.step (Le.refl _ _ _) ⟨rfl, Nat.le_refl _⟩ rfl rfl (fun _ _ => rfl) (Nat.le_refl _) (fun _ _ _ => rfl) (fun _ h => .inl h) (fun i o ho => hm.objs i o (hH i o ho)) (fun i o b ho => hm.blk i o b (hH i o ho))
    (fun i j o o' b h1 h2 => hm.inj i j o o' b (hH _ _ h1) (hH _ _ h2)) hm.stab hm.fresh (hm.nkeep (Le.refl _ _ _) (Nat.le_refl _) (fun _ _ _ _ _ _ h => h.of fun o h => hH _ _ h) (fun _ _ _ _ _ _ _ c e _ _ _ k2 k3 => ⟨c, e, k2, k3⟩) (fun b' _ h2 h3 => ⟨rfl, h2, fun id2 o2 h => h3 _ _ (hH _ _ h)⟩))
theorem MeetsD.keepH {D : Array Value → World → (Ending → World → Prop) → Prop} (hD : ∀ args w R R', D args w R → (∀ e w', R e w' → R' e w') → D args w R') {args : List PV} {n n' : Nat} {Hin Hout Hout' : Hp} {res : PV} (h : MeetsD D args n Hin res Hout n') (hH : ∀ i o, hlook Hout' i = some o → hlook Hout i = some o) : MeetsD D args n Hin res Hout' n' :=
  ⟨fun C vs h1 h2 h3 h4 => hD _ _ _ _ (h.run C vs h1 h2 h3 h4) fun e w' ⟨v, S', m', k1, k2, k3⟩ => ⟨v, S', m', k1, k2.keepH hH, k3⟩⟩
theorem Meets.keepH {f : FuncId} {args : List PV} {n n' : Nat} {Hin Hout Hout' : Hp} {res : PV} (h : Meets P f args n Hin res Hout n') (hH : ∀ i o, hlook Hout' i = some o → hlook Hout i = some o) : Meets P f args n Hin res Hout' n' :=
  ⟨fun C vs h1 h2 h3 h4 => Calls.mono (h.run C vs h1 h2 h3 h4) fun e w' ⟨v, S', m', k1, k2, k3⟩ => ⟨v, S', m', k1, k2.keepH hH, k3⟩⟩
theorem tGt {g : Bool} (h : g = true := by first | rfl | decide | simp) : g = true := h
end
end Go.RT
/- '==' on structs that hold structs of numbers. -/
namespace Go.RT
open Go
set_option linter.all false
inductive Cmp (P : Program) : List Field → Nat → List FV → List FV → Prop where
  | nil (k : Nat) : Cmp P [] k [] []
  | int (f : Field) (r : List Field) (k : Nat) (kd kk : IntKind) (u v : Int) (a b : List FV) : (f.name != "_") = true → f.offset = k → P.underlying f.type = some (.int kk) → Cmp P r (k + 1) a b → Cmp P (f :: r) k (.lit (.int kd u) :: a) (.lit (.int kd v) :: b)
  | bool (f : Field) (r : List Field) (k : Nat) (u v : Bool) (a b : List FV) : (f.name != "_") = true → f.offset = k → P.underlying f.type = some .bool → Cmp P r (k + 1) a b → Cmp P (f :: r) k (.lit (.bool u) :: a) (.lit (.bool v) :: b)
  | str (f : Field) (r : List Field) (k n : Nat) (c d a b : List FV) : (f.name != "_") = true → f.offset = k → EqS P f.type n → (P.info? f.type).isSome = true → P.cellsOf f.type = n → c.length = n → d.length = n → fitFs P (P.fieldsOf f.type).toList c d = true → Cmp P r (k + n) a b → Cmp P (f :: r) k (c ++ a) (d ++ b)
section
variable {P : Program} {o : Oper} {g : Bool} {G : Env} {x y : Operand} {t t' : TypeId}
end
end Go.RT
/- The engine, part 44: a nil slice with its capacity told. -/
namespace Go.RT
open Go
set_option linter.all false
variable {G : Env} {H : Hp} {nx : Nat}
end Go.RT
/- The engine, part 45: strings of bytes. -/
namespace Go.RT
open Go
set_option linter.all false
abbrev encY (n : Int) : List FV := [If .u8 n]
section
variable {P : Program} {o : Oper} {g : Bool} {G : Env} {x y : Operand} {t t' : TypeId}
end
end Go.RT
/- The engine, part 46: an appended slice taken as frozen at once. -/
namespace Go.RT
open Go
set_option linter.all false
section
variable {P : Program} {C : Cx} {o : Oper} {g : Bool} {G : Env} {x y : Operand} {t t' : TypeId} {H : Hp} {nx : Nat}
theorem Mem.freeze1 {S : Nat → Prop} {m : Ids} {w : World} (hm : Mem C H nx S m w) {i sz : Nat} {rows : List (List FV)} (hi : hlook H i = some (.flat sz rows)) : Mem C ((i, none) :: H) nx (addF S m [i]) m w ∧ Le S m w (addF S m [i]) m w := by
  have hle : Le S m w (addF S m [i]) m w := ⟨fun b h => .inl h, fun _ _ => rfl, fun _ _ h => h, fun _ _ h => h⟩
  have hH : ∀ k o, hlook ((i, none) :: H) k = some o → hlook H k = some o ∧ k ≠ i := fun k o h => by
    rw [hlook_cons] at h
    by_cases e : i = k
    · rw [if_pos e] at h; cases h
    · rw [if_neg e] at h; exact ⟨h, fun e2 => e e2.symm⟩
  have hid : ∀ id, [i].contains id = true → id = i := fun id h => by simpa using h
  refine ⟨hm.step hle ⟨rfl, Nat.le_refl _⟩ rfl rfl (fun _ _ => rfl) (Nat.le_refl _) (fun _ _ _ => rfl) (fun b h => ?_) (fun k o ho => (hm.objs k o (hH k o ho).1).mono hle fun _ _ => rfl) (fun k o b ho hb => ?_)
    (fun k1 k2 o1 o2 b h1 h2 => hm.inj k1 k2 o1 o2 b (hH _ _ h1).1 (hH _ _ h2).1) (fun b h => ?_) hm.fresh (hm.nkeep hle (Nat.le_refl _) (fun _ _ _ _ _ _ h => h.of fun o h => (hH _ _ h).1) (fun _ _ _ _ _ _ _ c e _ _ _ k2 k3 => ⟨c, e, k2, k3⟩) (fun b' _ h2 h3 => ⟨rfl, ?_, fun id2 o2 h => h3 _ _ (hH _ _ h).1⟩)), hle⟩
  · rcases h with h | ⟨id, h1, h2⟩
    · exact .inl h
    · have e := hid id h1; subst e
      exact .inr ((hm.blk _ _ b hi h2).2.2.elim .inr .inl)
  · obtain ⟨h1, h2⟩ := hH k o ho
    obtain ⟨k1, k2, k3⟩ := hm.blk k o b h1 hb
    refine ⟨fun h => ?_, k2, k3⟩
    rcases h with h | ⟨id, q1, q2⟩
    · exact k1 h
    · have e := hid id q1; subst e
      exact h2 (hm.inj _ _ _ _ b h1 hi hb q2)
  · rcases h with h | ⟨id, h1, h2⟩
    · exact hm.stab b h
    · have e := hid id h1; subst e
      exact (hm.blk _ _ b hi h2).2.1
  · rintro (h | ⟨id, q1, q2⟩)
    · exact h2 h
    · have e := hid id q1; subst e
      exact h3 _ _ hi q2
end
end Go.RT
/- The engine, part 47: a slice in a cell taken as frozen. -/
namespace Go.RT
open Go
set_option linter.all false
section
variable {C : Cx} {N : Nat} {G : Env} {H : Hp} {nx : Nat} {K : Act → World → Prop}
theorem Rep.slS {w : World} {S S' : Nat → Prop} {m : Ids} {v : Value} {id sz lo len : Nat} (h : Rep w S m v (.sl id sz lo len)) : Rep w S' m v (.sl id sz lo len) := by
  cases h with
  | sl0 _ _ h => exact .sl0 _ _ h
  | sl _ _ _ _ b cap h hr hc hm => exact .sl _ _ _ _ b cap h hr hc hm
/-- the slice in a cell of an owned object, owned itself, is not written any more -/
theorem Next.freezeCell (id row col j : Nat) {s sz n : Nat} {rows rows' : List (List PV)} {r : List PV} {irows : List (List FV)} (hl : hlook H id = some (.refs s rows)) (hrow : rows[row]? = some r) (hcol : r[col]? = some (.sl j sz 0 n)) (hj : hlook H j = some (.flat sz irows)) (hn : irows.length = n)
    (hr : rows.set row (r.set col (.fz (.vals sz irows))) = rows') (h : Next C N G ((id, some (.refs s rows')) :: (j, none) :: H) nx K) : Next C N G H nx K := by
  subst hr
  intro a w hR
  obtain ⟨S, m, hm, hsl⟩ := hR.mem
  obtain ⟨q1, q2⟩ := hm.freeze1 hj
  have hne : j ≠ id := fun e => by subst e; rw [hl] at hj; cases hj
  have m2 := q1.retell (id := id) (o := .refs s rows) (o' := .refs s (rows.set row (r.set col (.fz (.vals sz irows))))) (by rw [hlook_cons, if_neg hne]; exact hl) (fun ho => by
    rcases ho with ⟨k1, k2⟩ | ⟨b, c, e, k1, k2, k3⟩
    · subst k2; simp at hrow
    · refine .inr ⟨b, c, e, k1, k2, by simpa using k3.1, fun r' hr' => ?_, fun i j' r' p hi hj' => ?_⟩
      · rcases List.mem_or_eq_of_mem_set hr' with h1 | rfl
        · exact k3.2.1 r' h1
        · simpa using k3.2.1 r (List.mem_of_getElem? hrow)
      · rw [List.getElem?_set] at hi
        by_cases h1 : row = i
        · subst h1
          have hlt : row < rows.length := (List.getElem?_eq_some_iff.1 hrow).1
          simp only [if_true, hlt] at hi
          cases hi
          rw [List.getElem?_set] at hj'
          by_cases h2 : col = j'
          · subst h2
            have hlt2 : col < r.length := (List.getElem?_eq_some_iff.1 hcol).1
            simp only [if_true, hlt2] at hj'
            cases hj'
            obtain ⟨u, hu, ho1, hp⟩ := k3.2.2 row col r _ hrow hcol
            exact ⟨u, hu, ho1, .fz _ _ (AsF.rep hm (fun b h => .inl h) (fun k b hk hb => .inr ⟨k, hk, hb⟩) (F := [j]) (.sl j sz 0 n irows irows (by simp) hj (by rw [List.drop_zero]; exact List.take_of_length_le (by omega)) hn) u hp.slS)⟩
          · rw [if_neg h2] at hj'
            exact k3.2.2 row j' r p hrow hj'
        · rw [if_neg h1] at hi
          exact k3.2.2 i j' r' p hi hj') (own_setCell (fun a b e => by cases e) hrow)
  exact h a w ⟨hR.defers, hR.size, _, _, m2, fun t q hq => (hsl t q hq).mono q2⟩
end
end Go.RT
/- The engine, part 48: a frozen slice cut to its length ('s[:n:n]'), and what is appended to it. -/
namespace Go.RT
open Go
set_option linter.all false
section
variable {P : Program} {o : Oper} {g : Bool} {G : Env} {x y : Operand} {t : TypeId} {H : Hp} {nx : Nat}
theorem op_slice_cut {e : TypeId} {sz by_ h mx : Nat} {z : Value} {rows rs : List (List FV)} {oh om : Operand} [hd : TyD P t (.slice e)] [hn : TyN P e sz by_ z] (ho : o.op = .slice t x none (some oh) (some om)) (hx : Opd G g x (.fz (.vals sz rows))) (hhi : Bnd G g (some oh) rows.length h) (hmx : Bnd G g (some om) h mx)
    (hb : g = true → mx = h ∧ h ≤ rows.length ∧ rows.take h = rs) : OpP P o g G (.wc h (.fz (.vals sz rs))) :=
  .of fun S m a w hg ha => by
    have h1 := (hx.rep hg (by simp [ho, Op.operands]) ha).frz
    obtain ⟨rfl, hle, rfl⟩ := hb hg
    have b2 := hhi.val (o := o) (a := a) (w := w) (S := S) (m := m) hg (fun x hx => by simp [ho, Op.operands, hx]) ha
    have b3 := hmx.val (o := o) (a := a) (w := w) (S := S) (m := m) hg (fun x hx => by simp [ho, Op.operands, hx]) ha
    have run : ∀ (ad : Option Addr) (cap : Nat), rows.length ≤ cap → ∃ ad', (ad' = ad ∨ ad' = ad.map (·.add (0 * sz))) ∧ (Instr.sliceAt t (.slice ad rows.length cap) none (some (a.eval oh)) (some (a.eval om))).run P w = .ok (.slice ad' mx mx) w := fun ad cap hc => by
      have e1 : (Instr.sliceBounds true rows.length cap none (some (a.eval oh)) (some (a.eval om))).run P w = .ok (0, mx, mx) w := by
        rcases b2 with ⟨c2, _⟩ | ⟨k2, c2⟩
        · simp at c2
        rcases b3 with ⟨c3, _⟩ | ⟨k3, c3⟩
        · simp at c3
        rw [Option.map_some] at c2 c3
        rw [c2, c3]
        have : mx ≤ cap := Nat.le_trans hle hc
        simp [Instr.sliceBounds, Instr.sliceBound, asIntOf, this]
      refine ⟨if mx = 0 then ad else ad.map (·.add (0 * sz)), by split <;> simp, ?_⟩
      simp [Instr.sliceAt, Instr.slice, run_underlying hd.h, e1, run_size hn]
    have hadd : ∀ b off, (some (⟨b, off, none⟩ : Addr)).map (·.add (0 * sz)) = some ⟨b, off, none⟩ := fun b off => by simp [add_none]
    generalize hv : a.eval x = v at h1
    cases h1 with
    | nil =>
      rename_i a0 cap0
      obtain ⟨ad', _, hr⟩ := run a0 cap0 (Nat.zero_le _)
      simp only [List.length_nil, Nat.le_zero] at hle hr
      subst hle
      exact ⟨_, by simp only [execOp, ho, hv, Option.map_some, Option.map_none, Sem.run_bind, hr, Result.andThen_ok, Sem.run_pure]; rfl, .wc _ _ _ _ (.fz _ _ (by rw [List.take_nil]; exact .nil _ _ _))⟩
    | vals b off cap _ _ U hS hcap hsz hU hR =>
      obtain ⟨ad', h2, hr⟩ := run (some ⟨b, off, none⟩) cap hcap
      rw [hadd] at h2
      have h3 : ad' = some ⟨b, off, none⟩ := by rcases h2 with h2 | h2 <;> exact h2
      subst h3
      refine ⟨_, by simp only [execOp, ho, hv, Option.map_some, Option.map_none, Sem.run_bind, hr, Result.andThen_ok, Sem.run_pure]; rfl, .wc _ _ _ _ (.fz _ _ ?_)⟩
      have hget : ∀ (i : Nat) (r : List FV), (rows.take mx)[i]? = some r → rows[i]? = some r := fun i r h => by
        rw [List.getElem?_take] at h
        split at h
        · exact h
        · cases h
      have e := FRep.vals (w := w) (S := S) b off mx sz (rows.take mx) U hS (by simp; omega) (fun r hr => hsz r (List.mem_of_mem_take hr)) (fun i j r f hi hj => hU i j r f (hget i r hi) hj) (fun i j r f hi hj => hR i j r f (hget i r hi) hj)
      rw [List.length_take, Nat.min_eq_left hle] at e
      exact e
theorem Mem.skip {C : Cx} {S : Nat → Prop} {m : Ids} {w : World} (hm : Mem C H nx S m w) : Mem C ((nx, none) :: H) (nx + 1) S m w :=
  { hm.keepH (H' := (nx, none) :: H) fun i o h => by
      rw [hlook_cons] at h
      split at h
      · cases h
      · exact h with fresh := fun i hi => hm.fresh i (by omega) }
theorem append_cut_core {C : Cx} {S : Nat → Prop} {m : Ids} {w : World} (hm : Mem C H nx S m w) {e : TypeId} {sz by_ : Nat} {z : Value} [hd : TyD P t (.slice e)] [hn : TyN P e sz by_ z] {ty : TypeId} {ad : Option Addr} {n : Nat} {rows rs : List (List FV)} {vx : Value}
    (hs : FRep w S (.slice ad n n) (.vals sz rows)) (hrl : rows.length = n) (hx : Src w (FRep w S) sz vx rs) (h0 : 0 < sz) (hzs : z.cells.size = sz) (hbd : (n + rs.length) * by_ ≤ 140737488355328) (hmx : n + rs.length ≤ maxLen) :
    ∃ v w' S' m', (Builtin.append_ #[t, t] ty #[.slice ad n n, vx]).run P w = .ok v w' ∧ Mem C ((nx, none) :: H) (nx + 1) S' m' w' ∧ Le S m w S' m' w' ∧ FRep w' S' v (.vals sz (rows ++ rs)) := by
  obtain ⟨i, hi, i1, i2, i3⟩ := hn.h
  have hn' := hn
  have hsrc := src_fz hs
  rcases hx with ⟨rfl, ax, cx, rfl⟩ | ⟨bx, ox, cx, news, rfl, hsz, hnl, hnews, hnr⟩
  · exact ⟨_, w, S, m, run_append_zero (P := P) (t := t) (Nat.le_refl _), hm.skip, Le.refl _ _ _, by rw [List.append_nil]; exact hs⟩
  · have h1c : ∀ u ∈ news, u.oneCell' = true := fun u hu => by
      obtain ⟨j, hj, he⟩ := List.getElem_of_mem hu
      exact (hnews j u (by simp [hj, he])).2
    have hnw : ∀ j u, news[j]? = some u → w.cell? ((⟨bx, ox, none⟩ : Addr).add j) = some u := fun j u h => (hnews j u h).1
    have fresh : ∀ (cap' : Nat) (olds : List Value) (v : Value) (w1 : World), Le S m w S m w1 → Mem C H nx S m w1 → olds.length = n * sz → (∀ (i j : Nat) (r : List FV) (p : FV), rows[i]? = some r → r[j]? = some p → ∃ u, olds[i * sz + j]? = some u ∧ u.oneCell' = true ∧ FRep w S u p) → (∀ r ∈ rows, r.length = sz) → n + rs.length ≤ cap' → cap' ≤ maxLen →
        v = .slice (some ⟨w1.heap.size, 0, none⟩) (n + rs.length) cap' →
        ∃ S' m', Mem C ((nx, none) :: H) (nx + 1) S' m' (w1.alloc (.cells (olds.toArray ++ news.toArray ++ Builtin.zeroCells z.cells (cap' - (n + rs.length))) e)) ∧ Le S m w S' m' (w1.alloc (.cells (olds.toArray ++ news.toArray ++ Builtin.zeroCells z.cells (cap' - (n + rs.length))) e)) ∧
          FRep (w1.alloc (.cells (olds.toArray ++ news.toArray ++ Builtin.zeroCells z.cells (cap' - (n + rs.length))) e)) S' v (.vals sz (rows ++ rs)) := by
      intro cap' olds v w1 hle1 hm1 hol hor hrsz hge hcm hv
      have hsize : (olds.toArray ++ news.toArray ++ Builtin.zeroCells z.cells (cap' - (n + rs.length))).size = cap' * sz := by
        simp only [Array.size_append, List.size_toArray, hol, hnl, size_zeroCells, hzs]
        rw [← Nat.add_mul, ← Nat.add_mul]; congr 1; omega
      obtain ⟨k1, k2, k3⟩ := hm1.new (olds.toArray ++ news.toArray ++ Builtin.zeroCells z.cells (cap' - (n + rs.length))) e (.flat sz (rows ++ rs)) trivial (fun w' m' hle hnew hid => .inr ⟨_, _, _, hid, hnew, by
        have hall := hle1.trans hle
        refine RowsRep.append hrsz hsz (by rw [hsize, hrl]; exact Nat.mul_le_mul_right _ hge) (fun i j r p hi hj => ?_) (fun i j r p hi hj => ?_)
        · obtain ⟨u, hu, ho1, hp⟩ := hor i j r p hi hj
          have hlt : i * sz + j < olds.length := (List.getElem?_eq_some_iff.1 hu).1
          refine ⟨u, ?_, ho1, hp.mono hall.st hall.same⟩
          rw [Array.append_assoc, Array.getElem?_append_left (by simpa using hlt)]; simpa using hu
        · obtain ⟨u, hu, hp⟩ := hnr i j r p hi hj
          have hlt : i * sz + j < news.length := (List.getElem?_eq_some_iff.1 hu).1
          refine ⟨u, ?_, h1c u (List.mem_of_getElem? hu), hp.mono hall.st hall.same⟩
          rw [Array.append_assoc, Array.getElem?_append_right (by simp [hol, hrl]), Array.getElem?_append_left (by simp [hol, hrl]; exact hlt)]
          simp [hol, hrl]; exact hu⟩)
      have hrep : Rep (w1.alloc (.cells (olds.toArray ++ news.toArray ++ Builtin.zeroCells z.cells (cap' - (n + rs.length))) e)) S (setM m nx (some w1.heap.size)) v (.sl nx sz 0 (n + rs.length)) := by
        rw [hv]
        have := Rep.sl (w := w1.alloc (.cells (olds.toArray ++ news.toArray ++ Builtin.zeroCells z.cells (cap' - (n + rs.length))) e)) (S := S) (m := setM m nx (some w1.heap.size)) nx sz 0 (n + rs.length) w1.heap.size cap' (setM_self _ _ _) ⟨_, e, _, k3, by rw [hsize]; simp⟩ hge (by omega)
        simpa using this
      have hself : hlook ((nx, some (Ob.flat sz (rows ++ rs))) :: H) nx = some (.flat sz (rows ++ rs)) := by rw [hlook_cons, if_pos rfl]
      obtain ⟨q1, q2⟩ := k1.freeze1 hself
      have hfr := AsF.rep k1 (S' := addF S (setM m nx (some w1.heap.size)) [nx]) (fun b h => .inl h) (fun k b hk hb => .inr ⟨k, hk, hb⟩) (F := [nx]) (.sl nx sz 0 _ (rows ++ rs) (rows ++ rs) (by simp) hself (by rw [List.drop_zero]; exact List.take_of_length_le (by simp [hrl])) (by simp [hrl])) v hrep
      refine ⟨_, _, q1.keepH fun k o h => ?_, (hle1.trans k2).trans q2, hfr⟩
      rw [hlook_cons] at h ⊢
      by_cases e : nx = k
      · rw [if_pos e] at h; cases h
      · rw [if_neg e] at h ⊢; rw [hlook_cons, if_neg e]; exact h
    have hdrew : Le S m w S m w.drew := ⟨fun _ h => h, fun _ _ => rfl, fun _ _ h => h, fun _ _ h => h⟩
    by_cases hm0 : rs.length = 0
    · have : rs = [] := List.eq_nil_of_length_eq_zero hm0
      subst this
      exact ⟨_, w, S, m, run_append_zero (P := P) (t := t) (Nat.le_refl _), hm.skip, Le.refl _ _ _, by rw [List.append_nil]; exact hs⟩
    have grow : ∀ (b : Addr) (olds : List Value), olds.length = n * sz → (∀ (j : Nat) (v : Value), olds[j]? = some v → w.cell? (b.add j) = some v) → (∀ r ∈ rows, r.length = sz) → (∀ (i j : Nat) (r : List FV) (p : FV), rows[i]? = some r → r[j]? = some p → ∃ u, olds[i * sz + j]? = some u ∧ u.oneCell' = true ∧ FRep w S u p) → ad = some b →
        ∃ v w' S' m', (Builtin.append_ #[t, t] ty #[.slice ad n n, .slice (some ⟨bx, ox, none⟩) rs.length cx]).run P w = .ok v w' ∧ Mem C ((nx, none) :: H) (nx + 1) S' m' w' ∧ Le S m w S' m' w' ∧ FRep w' S' v (.vals sz (rows ++ rs)) := fun b olds n1 n2 hrsz hor he => by
      subst he
      have hrun := run_append_grow (P := P) w t ty e i z hd.h hi i3 b n n olds (by rw [i1]; exact n1) n2 ⟨bx, ox, none⟩ rs.length cx news (by rw [i1]; exact hnl) hnw (by omega) (by unfold maxLen at hmx; omega) (growslice_fits (by omega) (by rw [i2]; exact hbd))
      obtain ⟨S', m', k1, k2, k3⟩ := fresh (grownCap w (n + rs.length) n e) olds _ w.drew hdrew hm.drew n1 hor hrsz (grownCap_ge w _ _ _) (grownCap_le_maxLen w _ _ _ hmx) rfl
      exact ⟨_, _, S', m', hrun, k1, k2, k3⟩
    rcases hsrc with ⟨hr0, ax, c, he⟩ | ⟨b, off, c, olds, he, hrsz, hol, holds, hor⟩
    · subst hr0
      simp only [List.length_nil] at hrl
      subst hrl
      cases he
      cases ad with
      | none =>
        have hr := run_append_nil (P := P) w t ty e i z hd.h hi i3 ⟨bx, ox, none⟩ rs.length cx news (by rw [i1]; exact hnl) hnw (by omega) (by unfold maxLen at hmx; omega) (by rw [i2]; simp only [Nat.zero_add] at hbd; omega)
        obtain ⟨S', m', k1, k2, k3⟩ := fresh (grownCap w rs.length 0 e) [] _ w.drew hdrew hm.drew (by simp) (fun i j r p hi => by simp at hi) (by simp) (by simp only [Nat.zero_add]; exact grownCap_ge w _ _ _) (grownCap_le_maxLen w _ _ _ (by simpa using hmx)) rfl
        simp only [Nat.zero_add, List.nil_append] at k1 k2 k3 ⊢
        refine ⟨_, _, S', m', hr, ?_, ?_, ?_⟩
        · simpa using k1
        · simpa using k2
        · simpa using k3
      | some b => exact grow b [] (by simp) (fun j v h => by simp at h) (by simp) (fun i j r p hi => by simp at hi) rfl
    · have h2 : n = rows.length := hrl.symm
      simp only [Value.slice.injEq] at he
      refine grow ⟨b, off, none⟩ olds (by rw [hol, hrl]) (fun j v h => (holds j v h).1) hrsz (fun i j r p hi hj => ?_) he.1
      obtain ⟨u, hu, hp⟩ := hor i j r p hi hj
      exact ⟨u, hu, (holds _ u hu).2, hp⟩
/-- 'append(s[:n:n], frozen..)': the result is frozen -/
theorem op_append_cut {e : TypeId} {sz by_ n : Nat} {z : Value} {rows rs : List (List FV)} [hd : TyD P t (.slice e)] [hn : TyN P e sz by_ z] (ho : o.op = .call { callee := .builtin .append, args := #[x, y], argTypes := #[t, t] })
    (hx : Opd G g x (.wc n (.fz (.vals sz rows)))) (hy : Opd G g y (.fz (.vals sz rs))) (hrl : rows.length = n) (h0 : Nat.blt 0 sz = true) (hzs : Nat.beq z.cells.size sz = true) (hbd : (n + rs.length) * by_ ≤ 140737488355328) (hmx : n + rs.length ≤ 4611686018427387904) :
    OpS P o g G H nx (.fz (.vals sz (rows ++ rs))) ((nx, none) :: H) (nx + 1) :=
  ⟨fun C S m a w hm hg ha K Q hK => by
    have h1 := hx.rep hg (by simp [ho, Op.operands, Call.operands]) ha
    have h2 := (hy.rep hg (by simp [ho, Op.operands, Call.operands]) ha).frz
    generalize hv : a.eval x = v0 at h1
    cases h1 with
    | wc ad len _ _ h1 =>
      have hl : len = n := by
        have := h1.frz
        cases this with
        | nil => simpa using hrl
        | vals => exact hrl
      subst hl
      obtain ⟨v, w', S', m', r1, r2, r3, r4⟩ := append_cut_core (P := P) (t := t) (ty := o.type) hm h1.frz hrl (src_fz h2) (blt_of h0) (Nat.eq_of_beq_eq_true hzs) hbd (by unfold maxLen; omega)
      refine wp_value (w' := w') (v := v) ?_ (hK _ _ _ _ r2 r3 (.fz _ _ r4))
      simp [execOp, ho, hv, resolve, invoke, builtin, r1]⟩
end
end Go.RT
/- The engine, part 49: slices at an unknown offset in cells that own them. -/
namespace Go.RT
open Go
set_option linter.all false
section
variable {P : Program} {o : Oper} {g : Bool} {G : Env} {x y : Operand} {t : TypeId} {H : Hp} {nx : Nat}
/-- a slice at an unknown offset that a cell owns, taken out: the rows ahead of it and the capacity are told -/
theorem Next.takeO {C : Cx} {N : Nat} {K : Act → World → Prop} (id i j : Nat) {s k : Nat} {rows : List (List PV)} {r : List PV} {irows : List (List FV)} (hl : hlook H id = some (.refs s rows)) (hrow : rows[i]? = some r) (hcol : r[j]? = some (.own (1000000 + k) irows))
    (h2' : irows = [] → Next C N G ((id, some (.refs s (rows.set i (r.set j (.wc 0 (.fz (.vals k []))))))) :: (nx, none) :: H) (nx + 1) K)
    (h : ∀ (junk : List (List FV)) (cap : Nat), irows.length ≤ cap → junk.length + cap ≤ maxLen → Next C N G ((id, some (.refs s (rows.set i (r.set j (.wc cap (.sl nx k junk.length irows.length)))))) :: (nx, some (.flat k (junk ++ irows))) :: H) (nx + 1) K) : Next C N G H nx K := by
  intro ac w hR
  obtain ⟨S, m, hm, hsl⟩ := hR.mem
  obtain ⟨ib, hn⟩ := hm.nst
  have hO : OwnE H id s i j (1000000 + k) irows := ⟨rows, r, hl, hrow, hcol⟩
  obtain ⟨b, c, e, u, k1, k2, k3, k4⟩ := hn.at_ _ _ _ _ _ _ hO
  have hxb : ∀ b', ib id i j = some b' → ¬ S b' ∧ b' < w.heap.size ∧ (C.w0.heap.size ≤ b' ∨ C.own0 b') := fun b' hb => k4.blk hb
  by_cases hD : ib id i j = none ∧ irows = [] ∧ ∃ ad, u = .slice ad 0 0
  · obtain ⟨_, hir, ad, hu⟩ := hD
    have hids0 : ∀ i y, m i = some y → i ≠ nx := fun i y hi => by have := hm.lt hi; omega
    have hne0 : id ≠ nx := hids0 _ _ k1
    have m1 := hm.skip
    have m2 := m1.retell (id := id) (o := .refs s rows) (o' := .refs s (rows.set i (r.set j (.wc 0 (.fz (.vals k [])))))) (by rw [hlook_cons, if_neg (fun e => hne0 e.symm)]; exact hl) (fun ho => by
      rcases ho with ⟨q1, q2⟩ | ⟨b2, c2, e2, q1, q2, q3⟩
      · subst q2; simp at hrow
      · rw [k1] at q1; cases q1
        rw [k2] at q2; cases q2
        refine .inr ⟨_, _, _, k1, k2, q3.setCell hrow hcol (fun u2 hu2 _ => ?_)⟩
        rw [k3] at hu2; cases hu2
        subst hu
        exact .wc _ _ _ _ (.fz _ _ (.nil _ _ _))) (own_setCell (fun a b e => by cases e) hrow)
    exact h2' hir ac w ⟨hR.defers, hR.size, S, m, m2, hsl⟩
  obtain ⟨junk, cap, hc1, hc2, hrep0, hobj⟩ : ∃ (junk : List (List FV)) (cap : Nat), irows.length ≤ cap ∧ junk.length + cap ≤ maxLen ∧ (∀ m' : Ids, m' nx = some (ib id i j) → Rep w S m' u (.wc cap (.sl nx k junk.length irows.length))) ∧ (∀ m' : Ids, m' nx = some (ib id i j) → ORep w S m' nx (.flat k (junk ++ irows))) := by
    rcases k4 with ⟨q1, q2, q3⟩ | ⟨_, _, _, _, _, _, _, _, _, _, _, _, _, _, q⟩ | ⟨b', c', e', cap, k', junk, q1, q2, q3, q4, q5, q6, q7, q8, q9, q10, q11⟩ | ⟨q1, _, q3, q4⟩
    · exact absurd ⟨q1, q3, none, q2⟩ hD
    · omega
    · have : k = k' := by omega
      subst this
      subst q3
      exact ⟨junk, cap, q4, q5, fun m' hm' => .wc _ _ _ _ (.sl _ _ _ _ b' cap (by rw [hm', q1]) ⟨c', e', _, q6, q7⟩ q4 q5), fun m' hm' => .inr ⟨b', c', e', by rw [hm', q1], q6, q8⟩⟩
    · exact absurd ⟨q1, q3, q4⟩ hD
  have h := h junk cap hc1 hc2
  have hids : ∀ i y, m i = some y → i ≠ nx := fun i y hi => by have := hm.lt hi; omega
  have hle : Le S m w S (setM m nx (ib id i j)) w := ⟨fun _ h => h, fun _ _ => rfl, fun i y hi => by rw [setM_other (hids i y hi)]; exact hi, fun _ _ h => h⟩
  have hidne : id ≠ nx := hids _ _ k1
  have hHne : ∀ id2 o2, hlook H id2 = some o2 → id2 ≠ nx := fun id2 o2 h2 => by obtain ⟨y, hy⟩ := (hm.objs id2 _ h2).known; exact hids _ _ hy
  have ex : ∀ id2 o2, hlook ((id, some (Ob.refs s (rows.set i (r.set j (.wc cap (.sl nx k junk.length irows.length)))))) :: (nx, some (.flat k (junk ++ irows))) :: H) id2 = some o2 → (id2 = id ∧ o2 = .refs s (rows.set i (r.set j (.wc cap (.sl nx k junk.length irows.length))))) ∨ (id2 = nx ∧ o2 = .flat k (junk ++ irows)) ∨ (id2 ≠ id ∧ id2 ≠ nx ∧ hlook H id2 = some o2) := fun id2 o2 h2 => by
    rw [hlook_cons] at h2
    by_cases h3 : id = id2
    · rw [if_pos h3] at h2; cases h2; exact .inl ⟨h3.symm, rfl⟩
    · rw [if_neg h3, hlook_cons] at h2
      by_cases h4 : nx = id2
      · rw [if_pos h4] at h2; cases h2; exact .inr (.inl ⟨h4.symm, rfl⟩)
      · rw [if_neg h4] at h2; exact .inr (.inr ⟨fun e => h3 e.symm, fun e => h4 e.symm, h2⟩)
  have hrep := hrep0 (setM m nx (ib id i j)) (setM_self _ _ _)
  refine h ac w ⟨hR.defers, hR.size, S, setM m nx (ib id i j), hm.step hle ⟨rfl, Nat.le_refl _⟩ rfl rfl (fun _ _ => rfl) (Nat.le_refl _) (fun _ _ _ => rfl) (fun _ h => .inl h) (fun id2 o2 h2 => ?_) (fun id2 o2 b2 h2 hb2 => ?_) (fun i1 i2 o1 o2 b2 h1 h2 h3 h4 => ?_) hm.stab (fun i2 hi2 => ?_) ?_, fun t q hq => (hsl t q hq).mono hle⟩
  · rcases ex id2 o2 h2 with ⟨rfl, rfl⟩ | ⟨rfl, rfl⟩ | ⟨_, _, h3⟩
    · rcases hm.objs _ _ hl with ⟨q1, q2⟩ | ⟨b2, c2, e2, q1, q2, q3⟩
      · subst q2; simp at hrow
      · rw [k1] at q1; cases q1
        rw [k2] at q2; cases q2
        exact .inr ⟨_, _, _, hle.ids _ _ k1, k2, (q3.mono fun v p h => h.mono hle).setCell hrow hcol (fun u2 hu2 _ => by rw [k3] at hu2; cases hu2; exact hrep)⟩
    · exact hobj _ (setM_self _ _ _)
    · exact (hm.objs _ _ h3).mono hle (fun _ _ => rfl)
  · rcases ex id2 o2 h2 with ⟨rfl, rfl⟩ | ⟨rfl, rfl⟩ | ⟨_, hne, h3⟩
    · rw [setM_other hidne] at hb2; exact hm.blk _ _ b2 hl hb2
    · rw [setM_self] at hb2; exact hxb b2 (by simpa using hb2)
    · rw [setM_other hne] at hb2; exact hm.blk _ _ b2 h3 hb2
  · have old : ∀ i1 o1, hlook ((id, some (Ob.refs s (rows.set i (r.set j (.wc cap (.sl nx k junk.length irows.length)))))) :: (nx, some (.flat k (junk ++ irows))) :: H) i1 = some o1 → i1 ≠ nx → ∃ o3, hlook H i1 = some o3 := fun i1 o1 h1 hne => by
      rcases ex i1 o1 h1 with ⟨rfl, _⟩ | ⟨rfl, _⟩ | ⟨_, _, h3⟩
      · exact ⟨_, hl⟩
      · exact absurd rfl hne
      · exact ⟨_, h3⟩
    by_cases a1 : i1 = nx <;> by_cases a2 : i2 = nx
    · rw [a1, a2]
    · subst a1
      obtain ⟨o3, ho3⟩ := old i2 o2 h2 a2
      rw [setM_self] at h3; rw [setM_other a2] at h4
      exact absurd h4 (hn.apart _ _ _ _ _ _ b2 hO (by simpa using h3) _ _ ho3)
    · subst a2
      obtain ⟨o3, ho3⟩ := old i1 o1 h1 a1
      rw [setM_self] at h4; rw [setM_other a1] at h3
      exact absurd h3 (hn.apart _ _ _ _ _ _ b2 hO (by simpa using h4) _ _ ho3)
    · obtain ⟨o3, ho3⟩ := old i1 o1 h1 a1
      obtain ⟨o4, ho4⟩ := old i2 o2 h2 a2
      rw [setM_other a1] at h3; rw [setM_other a2] at h4
      exact hm.inj _ _ _ _ b2 ho3 ho4 h3 h4
  · rw [setM_other (by omega)]; exact hm.fresh i2 (by omega)
  · have hOE : ∀ id2 s2 i2 j2 isz2 irows2, OwnE ((id, some (Ob.refs s (rows.set i (r.set j (.wc cap (.sl nx k junk.length irows.length)))))) :: (nx, some (.flat k (junk ++ irows))) :: H) id2 s2 i2 j2 isz2 irows2 → OwnE H id2 s2 i2 j2 isz2 irows2 ∧ ¬ (id2 = id ∧ i2 = i ∧ j2 = j) := fun id2 s2 i2 j2 isz2 irows2 h2 => by
      rcases own_set_other (H := H) hrow hl h2 (fun o hne h3 ⟨rows2, r2, ho, _, _⟩ => by
        rw [hlook_cons] at h3
        by_cases h4 : nx = id2
        · rw [if_pos h4] at h3; cases h3; cases ho
        · rwa [if_neg h4] at h3) with ⟨_, _, _, q, _⟩ | q
      · cases q
      · exact q
    refine ⟨ib, hn.keep (fun i => i) (fun id2 s2 i2 j2 isz2 irows2 h2 => ⟨(hOE _ _ _ _ _ _ h2).1, ?_⟩) (fun _ _ _ _ _ _ _ _ _ _ _ _ _ _ h => h) (fun _ h => h) (fun _ _ => rfl) (fun _ _ _ _ _ _ _ c e _ _ _ k2 k3 => ⟨c, e, k2, k3⟩) (fun id2 s2 i2 j2 isz2 irows2 b' h2 hb g1 g2 g3 g4 => ⟨rfl, g1, g2, g3, fun id3 o3 h3 hc => ?_⟩)⟩
    · obtain ⟨rows3, r3, q1, _⟩ := (hOE _ _ _ _ _ _ h2).1
      rw [setM_other (hHne _ _ q1)]
    · rcases ex id3 o3 h3 with ⟨rfl, rfl⟩ | ⟨rfl, rfl⟩ | ⟨_, hne, h5⟩
      · rw [setM_other hidne] at hc; exact g4 _ _ hl hc
      · rw [setM_self] at hc
        exact (hOE _ _ _ _ _ _ h2).2 (hn.inj _ _ _ _ _ _ _ _ _ _ _ _ b' (hOE _ _ _ _ _ _ h2).1 hO hb (by simpa using hc))
      · rw [setM_other hne] at hc; exact g4 _ _ h5 hc
/-- a slice put back at whatever offset: the cell owns it from then on -/
theorem Next.untakeO {C : Cx} {N : Nat} {K : Act → World → Prop} (id i j : Nat) {s a k n lo : Nat} {rows rows' : List (List PV)} {r : List PV} {jrows irows : List (List FV)} (hl : hlook H id = some (.refs s rows)) (hrow : rows[i]? = some r) (hcol : r[j]? = some (.sl a k lo n)) (ha : hlook H a = some (.flat k jrows)) (hj : jrows.drop lo = irows) (hlo : lo ≤ jrows.length) (hn : irows.length = n)
    (hr : rows.set i (r.set j (.own (1000000 + k) irows)) = rows') (h : Next C N G ((id, some (.refs s rows')) :: (a, none) :: H) nx K) : Next C N G H nx K := by
  subst hr; subst hn
  have hjj : jrows.take lo ++ irows = jrows := by rw [← hj, List.take_append_drop]
  intro ac w hR
  obtain ⟨S, m, hm, hsl⟩ := hR.mem
  obtain ⟨ib, hn⟩ := hm.nst
  have hida : id ≠ a := fun e => by subst e; rw [hl] at ha; cases ha
  rcases hm.objs _ _ hl with ⟨q1, q2⟩ | ⟨b, c, e, k1, k2, k3⟩
  · subst q2; simp at hrow
  obtain ⟨u, hu, hu1, hrep⟩ := k3.2.2 i j r _ hrow hcol
  have ex : ∀ id2 o2, hlook ((id, some (Ob.refs s (rows.set i (r.set j (.own (1000000 + k) irows))))) :: (a, none) :: H) id2 = some o2 → (id2 = id ∧ o2 = .refs s (rows.set i (r.set j (.own (1000000 + k) irows)))) ∨ (id2 ≠ id ∧ id2 ≠ a ∧ hlook H id2 = some o2) := fun id2 o2 h2 => by
    rw [hlook_cons] at h2
    by_cases h3 : id = id2
    · rw [if_pos h3] at h2; cases h2; exact .inl ⟨h3.symm, rfl⟩
    · rw [if_neg h3, hlook_cons] at h2
      by_cases h4 : a = id2
      · rw [if_pos h4] at h2; cases h2
      · rw [if_neg h4] at h2; exact .inr ⟨fun e => h3 e.symm, fun e => h4 e.symm, h2⟩
  have exo : ∀ id2 o2, hlook ((id, some (Ob.refs s (rows.set i (r.set j (.own (1000000 + k) irows))))) :: (a, none) :: H) id2 = some o2 → id2 ≠ a ∧ ∃ o3, hlook H id2 = some o3 := fun id2 o2 h2 => by
    rcases ex id2 o2 h2 with ⟨rfl, _⟩ | ⟨_, h3, h4⟩
    · exact ⟨hida, _, hl⟩
    · exact ⟨h3, _, h4⟩
  have hOE : ∀ id2 s2 i2 j2 isz2 irows2, OwnE ((id, some (Ob.refs s (rows.set i (r.set j (.own (1000000 + k) irows))))) :: (a, none) :: H) id2 s2 i2 j2 isz2 irows2 → (id2 = id ∧ i2 = i ∧ j2 = j ∧ isz2 = 1000000 + k ∧ irows2 = irows ∧ s2 = s) ∨ (OwnE H id2 s2 i2 j2 isz2 irows2 ∧ ¬ (id2 = id ∧ i2 = i ∧ j2 = j)) := fun id2 s2 i2 j2 isz2 irows2 h2 => by
    rcases own_set_other (H := H) hrow hl h2 (fun o hne h3 _ => by
      rw [hlook_cons] at h3
      by_cases h4 : a = id2
      · rw [if_pos h4] at h3; cases h3
      · rwa [if_neg h4] at h3) with ⟨q1, q2, q3, q4, q5⟩ | q
    · cases q4; exact .inl ⟨q1, q2, q3, rfl, rfl, q5⟩
    · exact .inr q
  obtain ⟨x, hx⟩ := (hm.objs _ _ ha).known
  have hin : InAt C S w (1000000 + k) irows u x := by
    generalize hnn : irows.length = n at hrep
    cases hrep with
    | sl0 _ _ q => exact .inl ⟨by rw [q] at hx; cases hx; rfl, rfl, List.eq_nil_of_length_eq_zero hnn⟩
    | sl _ _ _ _ b' cap q hrm hc hmx =>
      rw [q] at hx; cases hx
      obtain ⟨p1, p2, p3⟩ := hm.blk _ _ b' ha q
      rcases hm.objs _ _ ha with ⟨z1, _⟩ | ⟨b2, c2, e2, z1, z2, z3⟩
      · rw [q] at z1; cases z1
      · rw [q] at z1; cases z1
        obtain ⟨c3, e3, fr, y1, y2⟩ := hrm
        rw [z2] at y1; cases y1
        have hl0 : (jrows.take lo).length = lo := by simp; omega
        refine .inr (.inr (.inl ⟨b', c2, e2, cap, k, jrows.take lo, rfl, rfl, ?_, by omega, by rw [hl0]; exact hmx, z2, by rw [hl0]; exact y2, by rw [hjj]; exact z3, p1, p2, p3⟩))
        rw [hnn, hl0]
  let ibn : Nat → Nat → Nat → Option Nat := fun id2 i2 j2 => if id2 = id ∧ i2 = i ∧ j2 = j then x else ib id2 i2 j2
  have ibs : ibn id i j = x := by simp [ibn]
  have ibo : ∀ id2 i2 j2, ¬ (id2 = id ∧ i2 = i ∧ j2 = j) → ibn id2 i2 j2 = ib id2 i2 j2 := fun id2 i2 j2 h => by simp only [ibn, if_neg h]
  refine h ac w ⟨hR.defers, hR.size, S, m, hm.step (Le.refl _ _ _) ⟨rfl, Nat.le_refl _⟩ rfl rfl (fun _ _ => rfl) (Nat.le_refl _) (fun _ _ _ => rfl) (fun _ h => .inl h) (fun id2 o2 h2 => ?_) (fun id2 o2 b2 h2 hb2 => ?_) (fun i1 i2 o1 o2 b2 h1 h2 h3 h4 => ?_) hm.stab hm.fresh ⟨ibn, ?_⟩, hsl⟩
  · rcases ex id2 o2 h2 with ⟨rfl, rfl⟩ | ⟨_, _, h3⟩
    · exact .inr ⟨b, c, e, k1, k2, k3.setCell hrow hcol (fun u2 _ _ => .own u2 (1000000 + k) irows)⟩
    · exact hm.objs _ _ h3
  · obtain ⟨_, o3, h3⟩ := exo id2 o2 h2; exact hm.blk _ _ b2 h3 hb2
  · obtain ⟨_, o3, h5⟩ := exo i1 o1 h1
    obtain ⟨_, o4, h6⟩ := exo i2 o2 h2
    exact hm.inj _ _ _ _ b2 h5 h6 h3 h4
  · refine ⟨fun id2 s2 i2 j2 isz2 irows2 hO => ?_, fun id2 s2 i2 j2 isz2 irows2 b' hO hb id3 o3 h3 hc => ?_, fun id2 s2 i2 j2 isz2 irows2 id3 s3 i3 j3 isz3 irows3 b' hO hO2 h1 h2 => ?_⟩
    · rcases hOE _ _ _ _ _ _ hO with ⟨rfl, rfl, rfl, rfl, rfl, rfl⟩ | ⟨q1, q2⟩
      · rw [ibs]; exact ⟨b, c, e, u, k1, k2, hu, hin⟩
      · rw [ibo _ _ _ q2]; exact hn.at_ _ _ _ _ _ _ q1
    · obtain ⟨hne, o4, h4⟩ := exo id3 o3 h3
      rcases hOE _ _ _ _ _ _ hO with ⟨rfl, rfl, rfl, rfl, rfl, rfl⟩ | ⟨q1, q2⟩
      · rw [ibs] at hb; subst hb
        exact hne (hm.inj _ _ _ _ b' h4 ha hc hx)
      · rw [ibo _ _ _ q2] at hb; exact hn.apart _ _ _ _ _ _ b' q1 hb _ _ h4 hc
    · rcases hOE _ _ _ _ _ _ hO with ⟨rfl, rfl, rfl, rfl, rfl, rfl⟩ | ⟨q1, q2⟩ <;> rcases hOE _ _ _ _ _ _ hO2 with ⟨rfl, rfl, rfl, rfl, rfl, rfl⟩ | ⟨q3, q4⟩
      · exact ⟨rfl, rfl, rfl⟩
      · rw [ibs] at h1; subst h1; rw [ibo _ _ _ q4] at h2
        exact absurd hx (hn.apart _ _ _ _ _ _ b' q3 h2 _ _ ha)
      · rw [ibs] at h2; subst h2; rw [ibo _ _ _ q2] at h1
        exact absurd hx (hn.apart _ _ _ _ _ _ b' q1 h1 _ _ ha)
      · rw [ibo _ _ _ q2] at h1; rw [ibo _ _ _ q4] at h2
        exact hn.inj _ _ _ _ _ _ _ _ _ _ _ _ b' q1 q3 h1 h2
/-- an empty slice without room put back -/
theorem Next.untakeE {C : Cx} {N : Nat} {K : Act → World → Prop} (id i j : Nat) {s k : Nat} {rows rows' : List (List PV)} {r : List PV} (hl : hlook H id = some (.refs s rows)) (hrow : rows[i]? = some r) (hcol : r[j]? = some (.wc 0 (.fz (.vals k []))))
    (hr : rows.set i (r.set j (.own (1000000 + k) [])) = rows') (h : Next C N G ((id, some (.refs s rows')) :: H) nx K) : Next C N G H nx K := by
  subst hr
  intro ac w hR
  obtain ⟨S, m, hm, hsl⟩ := hR.mem
  obtain ⟨ib, hn⟩ := hm.nst
  rcases hm.objs _ _ hl with ⟨q1, q2⟩ | ⟨b, c, e, k1, k2, k3⟩
  · subst q2; simp at hrow
  obtain ⟨u, hu, hu1, hrep⟩ := k3.2.2 i j r _ hrow hcol
  have ex : ∀ id2 o2, hlook ((id, some (Ob.refs s (rows.set i (r.set j (.own (1000000 + k) []))))) :: H) id2 = some o2 → (id2 = id ∧ o2 = .refs s (rows.set i (r.set j (.own (1000000 + k) [])))) ∨ (id2 ≠ id ∧ hlook H id2 = some o2) := fun id2 o2 h2 => by
    rw [hlook_cons] at h2
    by_cases h3 : id = id2
    · rw [if_pos h3] at h2; cases h2; exact .inl ⟨h3.symm, rfl⟩
    · rw [if_neg h3] at h2; exact .inr ⟨fun e => h3 e.symm, h2⟩
  have exo : ∀ id2 o2, hlook ((id, some (Ob.refs s (rows.set i (r.set j (.own (1000000 + k) []))))) :: H) id2 = some o2 → ∃ o3, hlook H id2 = some o3 := fun id2 o2 h2 => by
    rcases ex id2 o2 h2 with ⟨rfl, _⟩ | ⟨_, h4⟩
    · exact ⟨_, hl⟩
    · exact ⟨_, h4⟩
  have hOE : ∀ id2 s2 i2 j2 isz2 irows2, OwnE ((id, some (Ob.refs s (rows.set i (r.set j (.own (1000000 + k) []))))) :: H) id2 s2 i2 j2 isz2 irows2 → (id2 = id ∧ i2 = i ∧ j2 = j ∧ isz2 = 1000000 + k ∧ irows2 = [] ∧ s2 = s) ∨ (OwnE H id2 s2 i2 j2 isz2 irows2 ∧ ¬ (id2 = id ∧ i2 = i ∧ j2 = j)) := fun id2 s2 i2 j2 isz2 irows2 h2 => by
    rcases own_set_other (H := H) hrow hl h2 (fun o hne h3 _ => h3) with ⟨q1, q2, q3, q4, q5⟩ | q
    · cases q4; exact .inl ⟨q1, q2, q3, rfl, rfl, q5⟩
    · exact .inr q
  have hin : InAt C S w (1000000 + k) [] u none := by
    generalize hp : (PV.fz (.vals k [])) = pp at hrep
    cases hrep with
    | wc ad len cap _ hp2 =>
      subst hp
      have := hp2.frz
      cases this with
      | nil => exact .inr (.inr (.inr ⟨rfl, by omega, rfl, _, rfl⟩))
      | vals b off cap _ _ U hS hcap hsz hU hR => exact .inr (.inr (.inr ⟨rfl, by omega, rfl, _, rfl⟩))
  let ibn : Nat → Nat → Nat → Option Nat := fun id2 i2 j2 => if id2 = id ∧ i2 = i ∧ j2 = j then none else ib id2 i2 j2
  have ibs : ibn id i j = none := by simp [ibn]
  have ibo : ∀ id2 i2 j2, ¬ (id2 = id ∧ i2 = i ∧ j2 = j) → ibn id2 i2 j2 = ib id2 i2 j2 := fun id2 i2 j2 h => by simp only [ibn, if_neg h]
  refine h ac w ⟨hR.defers, hR.size, S, m, hm.step (Le.refl _ _ _) ⟨rfl, Nat.le_refl _⟩ rfl rfl (fun _ _ => rfl) (Nat.le_refl _) (fun _ _ _ => rfl) (fun _ h => .inl h) (fun id2 o2 h2 => ?_) (fun id2 o2 b2 h2 hb2 => ?_) (fun i1 i2 o1 o2 b2 h1 h2 h3 h4 => ?_) hm.stab hm.fresh ⟨ibn, ?_⟩, hsl⟩
  · rcases ex id2 o2 h2 with ⟨rfl, rfl⟩ | ⟨_, h3⟩
    · exact .inr ⟨b, c, e, k1, k2, k3.setCell hrow hcol (fun u2 _ _ => .own u2 (1000000 + k) [])⟩
    · exact hm.objs _ _ h3
  · obtain ⟨o3, h3⟩ := exo id2 o2 h2; exact hm.blk _ _ b2 h3 hb2
  · obtain ⟨o3, h5⟩ := exo i1 o1 h1
    obtain ⟨o4, h6⟩ := exo i2 o2 h2
    exact hm.inj _ _ _ _ b2 h5 h6 h3 h4
  · refine ⟨fun id2 s2 i2 j2 isz2 irows2 hO => ?_, fun id2 s2 i2 j2 isz2 irows2 b' hO hb id3 o3 h3 hc => ?_, fun id2 s2 i2 j2 isz2 irows2 id3 s3 i3 j3 isz3 irows3 b' hO hO2 h1 h2 => ?_⟩
    · rcases hOE _ _ _ _ _ _ hO with ⟨rfl, rfl, rfl, rfl, rfl, rfl⟩ | ⟨q1, q2⟩
      · rw [ibs]; exact ⟨b, c, e, u, k1, k2, hu, hin⟩
      · rw [ibo _ _ _ q2]; exact hn.at_ _ _ _ _ _ _ q1
    · obtain ⟨o4, h4⟩ := exo id3 o3 h3
      rcases hOE _ _ _ _ _ _ hO with ⟨rfl, rfl, rfl, rfl, rfl, rfl⟩ | ⟨q1, q2⟩
      · rw [ibs] at hb; cases hb
      · rw [ibo _ _ _ q2] at hb; exact hn.apart _ _ _ _ _ _ b' q1 hb _ _ h4 hc
    · rcases hOE _ _ _ _ _ _ hO with ⟨rfl, rfl, rfl, rfl, rfl, rfl⟩ | ⟨q1, q2⟩ <;> rcases hOE _ _ _ _ _ _ hO2 with ⟨rfl, rfl, rfl, rfl, rfl, rfl⟩ | ⟨q3, q4⟩
      · exact ⟨rfl, rfl, rfl⟩
      · rw [ibs] at h1; cases h1
      · rw [ibs] at h2; cases h2
      · rw [ibo _ _ _ q2] at h1; rw [ibo _ _ _ q4] at h2
        exact hn.inj _ _ _ _ _ _ _ _ _ _ _ _ b' q1 q3 h1 h2
theorem append_grow_core {C : Cx} {S : Nat → Prop} {m : Ids} {w : World} (hm : Mem C H nx S m w) {e : TypeId} {sz by_ : Nat} {z : Value} [hd : TyD P t (.slice e)] [hn : TyN P e sz by_ z] {ty : TypeId} {ad : Option Addr} {n cap : Nat} {rows rs : List (List FV)} {vx : Value}
    (hsrc : Src w (FRep w S) sz (.slice ad n cap) rows) (had : ad = none → cap = 0) (hrl : rows.length = n) (hlt : n ≤ cap) (hgr : cap < n + rs.length) (hx : Src w (FRep w S) sz vx rs) (h0 : 0 < sz) (hzs : z.cells.size = sz) (hbd : (n + rs.length) * by_ ≤ 140737488355328) (hmx : n + rs.length ≤ maxLen) :
    ∃ v w' m', (Builtin.append_ #[t, t] ty #[.slice ad n cap, vx]).run P w = .ok v w' ∧ Mem C ((nx, some (.flat sz (rows ++ rs))) :: H) (nx + 1) S m' w' ∧ Le S m w S m' w' ∧ Rep w' S m' v (.sl nx sz 0 (n + rs.length)) := by
  obtain ⟨i, hi, i1, i2, i3⟩ := hn.h
  have hn' := hn
  rcases hx with ⟨rfl, ax, cx, rfl⟩ | ⟨bx, ox, cx, news, rfl, hsz, hnl, hnews, hnr⟩
  · simp at hgr; omega
  · have h1c : ∀ u ∈ news, u.oneCell' = true := fun u hu => by
      obtain ⟨j, hj, he⟩ := List.getElem_of_mem hu
      exact (hnews j u (by simp [hj, he])).2
    have hnw : ∀ j u, news[j]? = some u → w.cell? ((⟨bx, ox, none⟩ : Addr).add j) = some u := fun j u h => (hnews j u h).1
    have fresh : ∀ (cap' : Nat) (olds : List Value) (v : Value) (w1 : World), Le S m w S m w1 → Mem C H nx S m w1 → olds.length = n * sz → (∀ (i j : Nat) (r : List FV) (p : FV), rows[i]? = some r → r[j]? = some p → ∃ u, olds[i * sz + j]? = some u ∧ u.oneCell' = true ∧ FRep w S u p) → (∀ r ∈ rows, r.length = sz) → n + rs.length ≤ cap' → cap' ≤ maxLen →
        v = .slice (some ⟨w1.heap.size, 0, none⟩) (n + rs.length) cap' →
        ∃ m', Mem C ((nx, some (.flat sz (rows ++ rs))) :: H) (nx + 1) S m' (w1.alloc (.cells (olds.toArray ++ news.toArray ++ Builtin.zeroCells z.cells (cap' - (n + rs.length))) e)) ∧ Le S m w S m' (w1.alloc (.cells (olds.toArray ++ news.toArray ++ Builtin.zeroCells z.cells (cap' - (n + rs.length))) e)) ∧
          Rep (w1.alloc (.cells (olds.toArray ++ news.toArray ++ Builtin.zeroCells z.cells (cap' - (n + rs.length))) e)) S m' v (.sl nx sz 0 (n + rs.length)) := by
      intro cap' olds v w1 hle1 hm1 hol hor hrsz hge hcm hv
      have hsize : (olds.toArray ++ news.toArray ++ Builtin.zeroCells z.cells (cap' - (n + rs.length))).size = cap' * sz := by
        simp only [Array.size_append, List.size_toArray, hol, hnl, size_zeroCells, hzs]
        rw [← Nat.add_mul, ← Nat.add_mul]; congr 1; omega
      obtain ⟨k1, k2, k3⟩ := hm1.new (olds.toArray ++ news.toArray ++ Builtin.zeroCells z.cells (cap' - (n + rs.length))) e (.flat sz (rows ++ rs)) trivial (fun w' m' hle hnew hid => .inr ⟨_, _, _, hid, hnew, by
        have hall := hle1.trans hle
        refine RowsRep.append hrsz hsz (by rw [hsize, hrl]; exact Nat.mul_le_mul_right _ hge) (fun i j r p hi hj => ?_) (fun i j r p hi hj => ?_)
        · obtain ⟨u, hu, ho1, hp⟩ := hor i j r p hi hj
          have hlt : i * sz + j < olds.length := (List.getElem?_eq_some_iff.1 hu).1
          refine ⟨u, ?_, ho1, hp.mono hall.st hall.same⟩
          rw [Array.append_assoc, Array.getElem?_append_left (by simpa using hlt)]; simpa using hu
        · obtain ⟨u, hu, hp⟩ := hnr i j r p hi hj
          have hlt : i * sz + j < news.length := (List.getElem?_eq_some_iff.1 hu).1
          refine ⟨u, ?_, h1c u (List.mem_of_getElem? hu), hp.mono hall.st hall.same⟩
          rw [Array.append_assoc, Array.getElem?_append_right (by simp [hol, hrl]), Array.getElem?_append_left (by simp [hol, hrl]; exact hlt)]
          simp [hol, hrl]; exact hu⟩)
      have hrep : Rep (w1.alloc (.cells (olds.toArray ++ news.toArray ++ Builtin.zeroCells z.cells (cap' - (n + rs.length))) e)) S (setM m nx (some w1.heap.size)) v (.sl nx sz 0 (n + rs.length)) := by
        rw [hv]
        have := Rep.sl (w := w1.alloc (.cells (olds.toArray ++ news.toArray ++ Builtin.zeroCells z.cells (cap' - (n + rs.length))) e)) (S := S) (m := setM m nx (some w1.heap.size)) nx sz 0 (n + rs.length) w1.heap.size cap' (setM_self _ _ _) ⟨_, e, _, k3, by rw [hsize]; simp⟩ hge (by omega)
        simpa using this
      exact ⟨_, k1, hle1.trans k2, hrep⟩
    have hdrew : Le S m w S m w.drew := ⟨fun _ h => h, fun _ _ => rfl, fun _ _ h => h, fun _ _ h => h⟩
    have grow : ∀ (b : Addr) (olds : List Value), olds.length = n * sz → (∀ (j : Nat) (v : Value), olds[j]? = some v → w.cell? (b.add j) = some v) → (∀ r ∈ rows, r.length = sz) → (∀ (i j : Nat) (r : List FV) (p : FV), rows[i]? = some r → r[j]? = some p → ∃ u, olds[i * sz + j]? = some u ∧ u.oneCell' = true ∧ FRep w S u p) → ad = some b →
        ∃ v w' m', (Builtin.append_ #[t, t] ty #[.slice ad n cap, .slice (some ⟨bx, ox, none⟩) rs.length cx]).run P w = .ok v w' ∧ Mem C ((nx, some (.flat sz (rows ++ rs))) :: H) (nx + 1) S m' w' ∧ Le S m w S m' w' ∧ Rep w' S m' v (.sl nx sz 0 (n + rs.length)) := fun b olds n1 n2 hrsz hor he => by
      subst he
      have hrun := run_append_grow (P := P) w t ty e i z hd.h hi i3 b n cap olds (by rw [i1]; exact n1) n2 ⟨bx, ox, none⟩ rs.length cx news (by rw [i1]; exact hnl) hnw hgr (by unfold maxLen at hmx; omega) (growslice_fits hgr (by rw [i2]; exact hbd))
      obtain ⟨m', k1, k2, k3⟩ := fresh (grownCap w (n + rs.length) cap e) olds _ w.drew hdrew hm.drew n1 hor hrsz (grownCap_ge w _ _ _) (grownCap_le_maxLen w _ _ _ hmx) rfl
      exact ⟨_, _, m', hrun, k1, k2, k3⟩
    rcases hsrc with ⟨hr0, ax, c, he⟩ | ⟨b, off, c, olds, he, hrsz, hol, holds, hor⟩
    · subst hr0
      simp only [List.length_nil] at hrl
      subst hrl
      cases he
      cases ad with
      | none =>
        have := had rfl
        subst this
        have hr := run_append_nil (P := P) w t ty e i z hd.h hi i3 ⟨bx, ox, none⟩ rs.length cx news (by rw [i1]; exact hnl) hnw (by omega) (by unfold maxLen at hmx; omega) (by rw [i2]; simp only [Nat.zero_add] at hbd; omega)
        obtain ⟨m', k1, k2, k3⟩ := fresh (grownCap w rs.length 0 e) [] _ w.drew hdrew hm.drew (by simp) (fun i j r p hi => by simp at hi) (by simp) (by simp only [Nat.zero_add]; exact grownCap_ge w _ _ _) (grownCap_le_maxLen w _ _ _ (by simpa using hmx)) rfl
        simp only [Nat.zero_add, List.nil_append] at k1 k2 k3 ⊢
        refine ⟨_, _, m', hr, ?_, ?_, ?_⟩
        · simpa using k1
        · simpa using k2
        · simpa using k3
      | some b => exact grow b [] (by simp) (fun j v h => by simp at h) (by simp) (fun i j r p hi => by simp at hi) rfl
    · have h2 : n = rows.length := hrl.symm
      simp only [Value.slice.injEq] at he
      refine grow ⟨b, off, none⟩ olds (by rw [hol, hrl]) (fun j v h => (holds j v h).1) hrsz (fun i j r p hi hj => ?_) he.1
      obtain ⟨u, hu, hp⟩ := hor i j r p hi hj
      exact ⟨u, hu, (holds _ u hu).2, hp⟩

theorem run_append_roomO {e e' : TypeId} {sz by_ : Nat} {z : Value} [hd : TyD P t (.slice e)] [hn : TyN P e sz by_ z] {w : World} {ty : TypeId} {g of sLen sCap : Nat} {cur : Array Value} (hg : w.heap[g]? = some (.cells cur e' (0, 0)))
    {a : Addr} {m c : Nat} {news : List Value} (hl : news.length = m * sz) (hnews : ∀ j u, news[j]? = some u → w.cell? (a.add j) = some u) (h1 : ∀ u ∈ news, u.oneCell' = true) (hroom : sLen + m ≤ sCap) (hfit : of + sLen * sz + news.length ≤ cur.size) :
    (Builtin.append_ #[t, t] ty #[.slice (some ⟨g, of, none⟩) sLen sCap, .slice (some a) m c]).run P w =
      .ok (.slice (some ⟨g, of, none⟩) (sLen + m) sCap) (w.setRow g (cur.toList.take (of + sLen * sz) ++ news ++ cur.toList.drop (of + sLen * sz + news.length)).toArray) := by
  have hf := run_firstCells_some (P := P) w sz m a m c news hl hnews
  have hst := run_storeCells_at P g (of + sLen * sz) e' news 0 cur w hg (by simpa using hfit) h1
  simp only [Nat.add_zero] at hst
  simp [Builtin.append_, run_underlying hd.h, run_size hn, Builtin.lenOf, hroom, hf, Addr.add_lit, hst]
/-- 'append' onto a slice at an offset where there is room -/
theorem op_append_offR {e : TypeId} {sz by_ id n lo cap : Nat} {z : Value} {rows rs : List (List FV)} [hd : TyD P t (.slice e)] [hn : TyN P e sz by_ z] (ho : o.op = .call { callee := .builtin .append, args := #[x, y], argTypes := #[t, t] })
    (hx : Opd G g x (.wc cap (.sl id sz lo n))) (hy : Opd G g y (.fz (.vals sz rs))) (hl : hlook H id = some (.flat sz rows)) (hrl : rows.length = lo + n) (hroom : n + rs.length ≤ cap) :
    OpS P o g G H nx (.sl id sz lo (n + rs.length)) ((id, some (.flat sz (rows ++ rs))) :: H) nx :=
  ⟨fun C S m a w hm hg ha K Q hK => by
    have h1 := hx.rep hg (by simp [ho, Op.operands, Call.operands]) ha
    have h2 := (hy.rep hg (by simp [ho, Op.operands, Call.operands]) ha).frz
    have ho' := hm.objs id _ hl
    generalize hv : a.eval x = v0 at h1
    cases h1 with
    | wc ad len _ _ h1 =>
    have same : ∀ v, (Builtin.append_ #[t, t] o.type #[.slice ad len cap, a.eval y]).run P w = .ok v w → rs = [] → Rep w S m v (.sl id sz lo (n + rs.length)) → o.wpE P a w K Q := fun v hr h0 hrep => by
      subst h0
      refine wp_value (w' := w) (v := v) ?_ (hK _ w S m (by rw [List.append_nil]; exact hm.again hl) (Le.refl _ _ _) hrep)
      simp [execOp, ho, hv, resolve, invoke, builtin, hr]
    rcases src_fz h2 with ⟨h0, ax, cx, he⟩ | ⟨bx, ox, cx, news, he, hsz, hnl, hnews, hnr⟩
    · subst h0
      have h1' := h1
      cases h1 with
      | sl0 _ _ h => exact same _ (by rw [he]; exact run_append_zero (P := P) (t := t) (Nat.le_refl _)) rfl h1'
      | sl _ _ _ _ b cap' hb hr hc hmx2 => exact same _ (by rw [he]; exact run_append_zero (P := P) (t := t) hc) rfl h1'
    · have h1c : ∀ u ∈ news, u.oneCell' = true := fun u hu => by
        obtain ⟨j, hj, he⟩ := List.getElem_of_mem hu
        exact (hnews j u (by simp [hj, he])).2
      have hnw : ∀ j u, news[j]? = some u → w.cell? ((⟨bx, ox, none⟩ : Addr).add j) = some u := fun j u h => (hnews j u h).1
      have h1' := h1
      cases h1 with
      | sl0 _ _ h =>
        have h0 : rs = [] := List.eq_nil_of_length_eq_zero (by omega)
        exact same _ (by rw [he, h0]; exact run_append_zero (P := P) (t := t) (Nat.le_refl _)) h0 (by rw [h0]; exact h1')
      | sl _ _ _ _ b cap' hb hr hc hmx2 =>
        rcases ho' with ⟨h1, _⟩ | ⟨b', c, e', h1, hcb, hRR⟩
        · rw [hb] at h1; cases h1
        · rw [hb] at h1; cases h1
          have hcs : c.size = (lo + cap) * sz := by
            obtain ⟨c2, e2, fr, q1, q2⟩ := hr
            rw [hcb] at q1; cases q1; exact q2
          have hfit : (rows.length + rs.length) * sz ≤ c.size := by rw [hcs]; exact Nat.mul_le_mul_right _ (by omega)
          have hpos : lo * sz + n * sz = rows.length * sz := by rw [hrl, Nat.add_mul]
          have hfit2 : lo * sz + n * sz + news.length ≤ c.size := by rw [hpos, hnl, ← Nat.add_mul]; exact hfit
          have hfit3 : rows.length * sz + news.length ≤ c.size := by rw [← hpos]; exact hfit2
          have hrun := run_append_roomO (P := P) (t := t) (ty := o.type) (c := cx) (sCap := cap) hcb hnl hnw h1c hroom hfit2
          rw [hpos] at hrun
          have hs2 : (c.toList.take (rows.length * sz) ++ news ++ c.toList.drop (rows.length * sz + news.length)).toArray.size = c.size := by
            simp only [List.size_toArray, List.length_append, List.length_take, Array.length_toList, List.length_drop]; omega
          have hsp := hRR.splice2 (rs := rs) (vs := news) (lo := rows.length) (Nat.le_refl _) hfit hsz hnl (fun i j r p hi hj => by
            obtain ⟨u, hu, hp⟩ := hnr i j r p hi hj
            exact ⟨u, hu, h1c u (List.mem_of_getElem? hu), hp⟩)
          have e9 : rows.take rows.length ++ rs ++ rows.drop (rows.length + rs.length) = rows ++ rs := by rw [List.take_length, List.drop_eq_nil_of_le (by omega : rows.length ≤ rows.length + rs.length), List.append_nil]
          rw [e9] at hsp
          obtain ⟨k1, k2⟩ := hm.write hl hb hcb hs2 (o' := .flat sz (rows ++ rs)) (plain_hown (by exact trivial)) (fun w' hle hnew => .inr ⟨b, _, e', hb, hnew, hsp.mono fun v p h => h.mono hle.st hle.same⟩)
          refine wp_value (w' := _) (v := _) ?_ (hK _ _ _ _ k1 k2 (.sl id sz lo (n + rs.length) b cap hb (k2.room _ _ hr) hroom hmx2))
          simp [execOp, ho, hv, resolve, invoke, builtin, he, hrun]⟩
/-- 'append' onto a slice at an offset where there is no room: a new row -/
theorem op_append_offG {e : TypeId} {sz by_ id n lo cap : Nat} {z : Value} {rows rs : List (List FV)} [hd : TyD P t (.slice e)] [hn : TyN P e sz by_ z] (ho : o.op = .call { callee := .builtin .append, args := #[x, y], argTypes := #[t, t] })
    (hx : Opd G g x (.wc cap (.sl id sz lo n))) (hy : Opd G g y (.fz (.vals sz rs))) (hl : hlook H id = some (.flat sz rows)) (hrl : rows.length = lo + n) (hgr : cap < n + rs.length) (h0 : Nat.blt 0 sz = true) (hzs : Nat.beq z.cells.size sz = true) (hbd : (n + rs.length) * by_ ≤ 140737488355328) (hmx : n + rs.length ≤ 4611686018427387904) :
    OpS P o g G H nx (.sl nx sz 0 (n + rs.length)) ((nx, some (.flat sz (rows.drop lo ++ rs))) :: H) (nx + 1) :=
  ⟨fun C S m a w hm hg ha K Q hK => by
    have h1 := hx.rep hg (by simp [ho, Op.operands, Call.operands]) ha
    have h2 := (hy.rep hg (by simp [ho, Op.operands, Call.operands]) ha).frz
    generalize hv : a.eval x = v0 at h1
    cases h1 with
    | wc ad len _ _ h1 =>
    have hln : len = n ∧ len ≤ cap ∧ (ad = none → cap = 0) := by
      cases h1 with
      | sl0 _ _ h => exact ⟨rfl, Nat.le_refl _, fun _ => rfl⟩
      | sl _ _ _ _ b cap' hb hr hc hmx2 => exact ⟨rfl, hc, fun h => by cases h⟩
    obtain ⟨rfl, hlc, had⟩ := hln
    have hdl : ((rows.drop lo).take len) = rows.drop lo := List.take_of_length_le (by simp; omega)
    have hsrc := src_own hm h1 hl hdl (by simp; omega)
    obtain ⟨v, w', m', r1, r2, r3, r4⟩ := append_grow_core (P := P) (t := t) (ty := o.type) hm hsrc had (by simp; omega) hlc hgr (src_fz h2) (blt_of h0) (Nat.eq_of_beq_eq_true hzs) hbd (by unfold maxLen; omega)
    refine wp_value (w' := w') (v := v) ?_ (hK _ _ _ _ r2 r3 r4)
    simp [execOp, ho, hv, resolve, invoke, builtin, r1]⟩
/-- 's[1:]' of a slice with more room than one row -/
theorem op_slice_tl {e : TypeId} {sz by_ id lo n cap : Nat} {z : Value} {ol : Operand} [hd : TyD P t (.slice e)] [hn : TyN P e sz by_ z] (ho : o.op = .slice t x (some ol) none none) (hx : Opd G g x (.wc cap (.sl id sz lo n))) (hlo : Bnd G g (some ol) 0 1) (hb : g = true → 1 ≤ n ∧ 1 < cap) : OpP P o g G (.sl id sz (lo + 1) (n - 1)) :=
  .of fun S m a w hg ha => by
    have h1 := hx.rep hg (by simp [ho, Op.operands]) ha
    obtain ⟨q1, q2⟩ := hb hg
    have b1 := hlo.val (o := o) (a := a) (w := w) (S := S) (m := m) hg (fun x hx => by simp [ho, Op.operands, hx]) ha
    generalize hv : a.eval x = v at h1
    cases h1 with
    | wc ad len _ _ h1 =>
    cases h1 with
    | sl0 => omega
    | sl _ _ _ _ b cap' hid hr hc hmx =>
      have := run_slice (P := P) (t := t) (w := w) (a := some ⟨b, lo * sz, none⟩) (len := n) (cap := cap) (hi := none) (h := n) b1 (.inl ⟨rfl, rfl⟩) q1 hc
      have e0 : (if cap = 1 then some (⟨b, lo * sz, none⟩ : Addr) else (some (⟨b, lo * sz, none⟩ : Addr)).map (·.add (1 * sz))) = some ⟨b, (lo + 1) * sz, none⟩ := by
        rw [if_neg (by omega)]; simp only [Option.map_some, add_none, Nat.add_mul]
      rw [e0] at this
      simp only [Option.map_some] at this
      refine ⟨.slice (some ⟨b, (lo + 1) * sz, none⟩) (n - 1) (cap - 1), by simp [execOp, ho, hv, this], .sl id sz (lo + 1) (n - 1) b (cap - 1) hid ?_ (by omega) (by omega)⟩
      rw [show lo + 1 + (cap - 1) = lo + cap by omega]; exact hr
/-- 's[1:]' of a slice with room for one row -/
theorem op_slice_tl0 {e : TypeId} {sz by_ id lo : Nat} {z : Value} {ol : Operand} [hd : TyD P t (.slice e)] [hn : TyN P e sz by_ z] (ho : o.op = .slice t x (some ol) none none) (hx : Opd G g x (.wc 1 (.sl id sz lo 1))) (hlo : Bnd G g (some ol) 0 1) : OpP P o g G (.wc 0 (.fz (.vals sz []))) :=
  .of fun S m a w hg ha => by
    have h1 := hx.rep hg (by simp [ho, Op.operands]) ha
    have b1 := hlo.val (o := o) (a := a) (w := w) (S := S) (m := m) hg (fun x hx => by simp [ho, Op.operands, hx]) ha
    generalize hv : a.eval x = v at h1
    cases h1 with
    | wc ad len _ _ h1 =>
    cases h1 with
    | sl _ _ _ _ b cap' hid hr hc hmx =>
      have := run_slice (P := P) (t := t) (w := w) (a := some ⟨b, lo * sz, none⟩) (len := 1) (cap := 1) (hi := none) (h := 1) b1 (.inl ⟨rfl, rfl⟩) (Nat.le_refl _) (Nat.le_refl _)
      simp only [Option.map_some, if_true, Nat.sub_self] at this
      exact ⟨.slice (some ⟨b, lo * sz, none⟩) 0 0, by simp [execOp, ho, hv, this], .wc _ _ _ _ (.fz _ _ (.nil _ _ _))⟩
/-- 'append' onto an empty slice without room -/
theorem op_append_e {e : TypeId} {sz by_ : Nat} {z : Value} {rs : List (List FV)} [hd : TyD P t (.slice e)] [hn : TyN P e sz by_ z] (ho : o.op = .call { callee := .builtin .append, args := #[x, y], argTypes := #[t, t] })
    (hx : Opd G g x (.wc 0 (.fz (.vals sz [])))) (hy : Opd G g y (.fz (.vals sz rs))) (hgr : 0 < rs.length) (h0 : Nat.blt 0 sz = true) (hzs : Nat.beq z.cells.size sz = true) (hbd : rs.length * by_ ≤ 140737488355328) (hmx : rs.length ≤ 4611686018427387904) :
    OpS P o g G H nx (.sl nx sz 0 rs.length) ((nx, some (.flat sz rs)) :: H) (nx + 1) :=
  ⟨fun C S m a w hm hg ha K Q hK => by
    have h1 := hx.rep hg (by simp [ho, Op.operands, Call.operands]) ha
    have h2 := (hy.rep hg (by simp [ho, Op.operands, Call.operands]) ha).frz
    generalize hv : a.eval x = v0 at h1
    cases h1 with
    | wc ad len _ _ h1 =>
    have hln : len = 0 := by
      have := h1.frz
      cases this <;> rfl
    subst hln
    obtain ⟨v, w', m', r1, r2, r3, r4⟩ := append_grow_core (P := P) (t := t) (ty := o.type) (n := 0) (rows := []) hm (src_fz h1.frz) (fun _ => rfl) rfl (Nat.le_refl _) (by omega) (src_fz h2) (blt_of h0) (Nat.eq_of_beq_eq_true hzs) (by simpa using hbd) (by unfold maxLen; omega)
    simp only [Nat.zero_add, List.nil_append] at r2 r4
    refine wp_value (w' := w') (v := v) ?_ (hK _ _ _ _ r2 r3 r4)
    simp [execOp, ho, hv, resolve, invoke, builtin, r1]⟩
end
end Go.RT
/- Short names of steps. -/
namespace Go.RT
theorem za {α β : Prop} (k : β) (h : β → α := by intro h; exact s_reg rfl h) : α := h k
theorem zb {α β : Prop} (k : β) (h : β → α := by intro h; exact rnZ h) : α := h k
theorem zc {α β : Prop} (k : β) (h : β → α := by intro h; exact rmZ _ rfl rfl rfl h) : α := h k
theorem zd {α β : Prop} (k : β) (h : β → α := by intro h; exact raZ _ rfl rfl rfl h) : α := h k
theorem ze {α β : Prop} (k : β) (h : β → α := by intro h; exact rpZ _ rfl (op_assign rfl oC) h) : α := h k
theorem zf {α β : Prop} (k : β) (h : β → α := by intro h; exact rpZ _ rfl (op_fld_ptr (by decide) rfl (oT rfl)) h) : α := h k
theorem zg {α β : Prop} (k : β) (h : β → α := by intro h; exact Run.eff (dd := _) rfl rfl (op_store_flat rfl (oT rfl) (oT rfl) tC rfl rfl (by first | rfl | assumption) tS) h) : α := h k
theorem zh {α β : Prop} (k : β) (h : β → α := by intro h; exact rlZ _ rfl (op_load1_flat rfl (oT rfl) tH rfl) h) : α := h k
theorem zi {α β : Prop} (k : β) (h : β → α := by intro h; exact rpZ _ rfl (op_extract_fz rfl (oT rfl) rfl) h) : α := h k
theorem zj {α β : Prop} (k : β) (h : β → α := by intro h; exact rpZ _ rfl (op_add rfl (oT rfl) oC tI) h) : α := h k
theorem zk {α β : Prop} (k : β) (h : β → α := by intro h; exact rpZ _ rfl (op_len_fz rfl (by first | exact Opd.tmp _ _ rfl | exact Opd.nil _ _ (oT rfl)) (by first | exact List.length_map _ | rfl)) h) : α := h k
theorem zl {α β : Prop} (k : β) (h : β → α := by intro h; exact gmZ _ rfl rfl tG rfl rfl h) : α := h k
theorem zm {α β : Prop} (k : β) (h : β → α := by intro h; exact rlZ _ rfl (op_loadw_flat rfl (oT rfl) tH rfl) h) : α := h k
theorem zn {α β : Prop} (k : β) (h : β → α := by intro h; exact rpZ _ rfl (op_lss rfl (oT rfl) (oT rfl)) h) : α := h k
theorem zo {α β : Prop} (k : β) (h : β → α := by intro h; exact Run.eff (dd := _) rfl rfl (op_alloc rfl rfl rfl rfl) h) : α := h k
theorem zp {α β : Prop} (k : β) (h : β → α := by intro h; exact rgZ _ rfl rfl tG (op_fld_ptr (by decide) rfl (oT rfl)) h) : α := h k
theorem zq {α β : Prop} (k : β) (h : β → α := by intro h; exact Run.nil (FinD.mk (by kernel_rfl) h)) : α := h k
theorem zr {α β : Prop} (k : β) (h : β → α := by intro h; exact rpZ _ rfl (op_idx_fz _ rfl (oT rfl) (oT rfl) tF) h) : α := h k
theorem zs {α β : Prop} (k : β) (h : β → α := by intro h; exact rkZ _ rfl rfl tG (op_load1_flat rfl (oO rfl tO) tH rfl) h) : α := h k
theorem zt {α β : Prop} (k : β) (h : β → α := by intro h; exact rpZ _ rfl (op_load1_fz rfl (oT rfl) rfl) h) : α := h k
theorem zu {α β : Prop} (k : β) (h : β → α := by intro h; exact Run.eff (dd := _) rfl rfl (op_box_flat rfl (oT rfl) tC rfl) h) : α := h k
theorem zv {α β : Prop} (k : β) (h : β → α := by intro h; exact rpZ _ rfl (op_loadw_fz rfl (oT rfl) rfl) h) : α := h k
theorem zw {α β : Prop} (k : β) (h : β → α := by intro h; exact rpZ _ rfl (op_nilck_ptr rfl (oT rfl)) h) : α := h k
theorem zx {α β : Prop} (k : β) (h : β → α := by intro h; exact rpZ _ rfl (op_move rfl oC) h) : α := h k
theorem zy {α β : Prop} (k : β) (h : β → α := by intro h; exact rpZ _ rfl (op_pick_and rfl (oT rfl) (oO rfl tO)) h) : α := h k
theorem zqqz {α β : Prop} (k : β) (h : β → α := by intro h; exact rpZ _ rfl (op_buildSlice_fz rfl (RowsF.cons _ _ _ _ _ _ (oT rfl) tC (by rfl) (RowsF.nil _)) rfl rfl) h) : α := h k
theorem zba {α β : Prop} (k : β) (h : β → α := by intro h; exact rpZ _ rfl (op_eql rfl (oT rfl) oC) h) : α := h k
theorem zbb {α β : Prop} (k : β) (h : β → α := by intro h; exact rlZ _ rfl (op_load1_refs rfl (oT rfl) tH rfl) h) : α := h k
theorem zbc {α β : Prop} (k : β) (h : β → α := by intro h; exact rlZ _ rfl (op_loadn_flat rfl (oT rfl) tH tR tR) h) : α := h k
theorem zbd {α β : Prop} (k : β) (h : β → α := by intro h; exact rpZ _ rfl (op_pick_or rfl (oT rfl) (oO rfl tO)) h) : α := h k
theorem zbe {α β : Prop} (k : β) (h : β → α := by intro h; exact rpZ _ rfl (op_neq rfl (oT rfl) oC) h) : α := h k
theorem zbf {α β : Prop} (k : β) (h : β → α := by intro h; exact rpZ _ rfl (op_fld_fz (by decide) rfl (oT rfl) tR) h) : α := h k
theorem zbg {α β : Prop} (k : β) (h : β → α := by intro h; exact rpZ _ rfl (op_build rfl rfl rfl (FillF.nil _)) h) : α := h k
theorem zbh {α β : Prop} (k : β) (h : β → α := by intro h; exact rpZ _ rfl (op_conv rfl (oT rfl) tI) h) : α := h k
theorem zbi {α β : Prop} (k : β) (h : β → α := by intro h; exact Run.eff (dd := _) rfl rfl (op_append rfl (oT rfl) (oT rfl) rfl (by simp) rfl rfl tB tB) h) : α := h k
theorem zbj {α β : Prop} (k : β) (h : β → α := by intro h; exact rpZ _ rfl (op_not rfl (oT rfl)) h) : α := h k
theorem zbk {α β : Prop} (k : β) (h : β → α := by intro h; exact rpZ _ rfl (op_neq rfl (oT rfl) (oT rfl)) h) : α := h k
theorem zbl {α β : Prop} (k : β) (h : β → α := by intro h; exact rpZ _ rfl (op_len_sl rfl (oT rfl)) h) : α := h k
theorem zbm {α β : Prop} (k : β) (h : β → α := by intro h; exact rpZ _ rfl (op_add rfl (oT rfl) (oT rfl) tI) h) : α := h k
theorem zbn {α β : Prop} (k : β) (h : β → α := by intro h; exact rpZ _ rfl (op_build rfl rfl rfl (FillF.cons _ _ _ _ _ _ _ _ _ _ (by rfl) (oT rfl) tC (by rfl) tR (FillF.cons _ _ _ _ _ _ _ _ _ _ (by rfl) (oT rfl) tC (by rfl) tR (FillF.nil _)))) h) : α := h k
theorem zbo {α β : Prop} (k : β) (h : β → α := by intro h; exact rgZ _ rfl rfl tG (op_gtr rfl (oO rfl tO) oC) h) : α := h k
theorem zbp {α β : Prop} (k : β) (h : β → α := by intro h; exact rgZ _ rfl rfl tG (op_eql rfl (oO rfl tO) (oO rfl tO)) h) : α := h k
theorem zbq {α β : Prop} (k : β) (h : β → α := by intro h; exact rpZ _ rfl (op_lss rfl (oT rfl) oC) h) : α := h k
theorem zbr {α β : Prop} (k : β) (h : β → α := by intro h; exact Run.effW (dd := _) rfl rfl (op_store_refs rfl (oT rfl) (oT rfl) tP rfl rfl rfl tS) (by first | exact ext_call | exact tE) h) : α := h k
theorem zbs {α β : Prop} (k : β) (h : β → α := by intro h; exact rgZ _ rfl rfl tG (op_fld_fz (by decide) rfl (oO rfl tO) tR) h) : α := h k
theorem zbt {α β : Prop} (k : β) (h : β → α := by intro h; exact rgZ _ rfl rfl tG (op_load1_fz rfl (oO rfl tO) rfl) h) : α := h k
theorem zbu {α β : Prop} (k : β) (h : β → α := by intro h; exact rpZ _ rfl (op_gtr rfl (oT rfl) oC) h) : α := h k
theorem zbv {α β : Prop} (k : β) (h : β → α := by intro h; exact rpZ _ rfl (op_sub rfl (oT rfl) oC tI) h) : α := h k
theorem zbw {α β : Prop} (k : β) (h : β → α := by intro h; exact rgZ _ rfl rfl tG (op_eql rfl (oO rfl tO) oC) h) : α := h k
theorem zbx {α β : Prop} (k : β) (h : β → α := by intro h; exact rpZ _ rfl (op_eql rfl (oT rfl) (oT rfl)) h) : α := h k
theorem zby {α β : Prop} (k : β) (h : β → α := by intro h; exact rkZ _ rfl rfl tG (op_loadw_flat rfl (oT rfl) tH rfl) h) : α := h k
theorem zbz {α β : Prop} (k : β) (h : β → α := by intro h; exact rpZ _ rfl (op_gtr rfl (oT rfl) (oT rfl)) h) : α := h k
theorem zca {α β : Prop} (k : β) (h : β → α := by intro h; exact rgZ _ rfl rfl tG (op_not rfl (oO rfl tO)) h) : α := h k
theorem zcb {α β : Prop} (k : β) (h : β → α := by intro h; exact Run.eff (dd := _) rfl rfl (op_store_refs rfl (oT rfl) (oT rfl) tP rfl rfl rfl tS) h) : α := h k
theorem zcc {α β : Prop} (k : β) (h : β → α := by intro h; exact rpZ _ rfl (op_loadn_fz rfl (oT rfl) tR) h) : α := h k
theorem zcd {α β : Prop} (k : β) (h : β → α := by intro h; exact rpZ _ rfl (op_build rfl rfl rfl (FillF.cons _ _ _ _ _ _ _ _ _ _ (by rfl) (oT rfl) tC (by rfl) tR (FillF.cons _ _ _ _ _ _ _ _ _ _ (by rfl) (oT rfl) tC (by rfl) tR (FillF.cons _ _ _ _ _ _ _ _ _ _ (by rfl) (oT rfl) tC (by rfl) tR (FillF.nil _))))) h) : α := h k
theorem zce {α β : Prop} (k : β) (h : β → α := by intro h; exact rgZ _ rfl rfl tG (op_move rfl (oO rfl tO)) h) : α := h k
theorem zcf {α β : Prop} (k : β) (h : β → α := by intro h; exact rgZ _ rfl rfl tG (op_sub rfl (oO rfl tO) oC tI) h) : α := h k
theorem zcg {α β : Prop} (k : β) (h : β → α := by intro h; exact rpZ _ rfl (op_geq rfl (oT rfl) oC) h) : α := h k
theorem zch {α β : Prop} (k : β) (h : β → α := by intro h; exact Run.effW (dd := _) rfl rfl (op_store_flat rfl (oT rfl) (oT rfl) tC rfl rfl (by first | rfl | assumption) tS) tE h) : α := h k
theorem zci {α β : Prop} (k : β) (h : β → α := by intro h; exact rgZ _ rfl rfl tG (op_len_fz rfl (by first | exact Opd.topt _ _ _ rfl tO | exact Opd.nil _ _ (oO rfl tO)) (by first | exact List.length_map _ | rfl)) h) : α := h k
theorem zcj {α β : Prop} (k : β) (h : β → α := by intro h; exact rgZ _ rfl rfl tG (op_gtr rfl (oO rfl tO) (oO rfl tO)) h) : α := h k
theorem zck {α β : Prop} (k : β) (h : β → α := by intro h; exact rgZ _ rfl rfl tG (op_fld_ptr (by decide) rfl (oO rfl tO)) h) : α := h k
theorem zcl {α β : Prop} (k : β) (h : β → α := by intro h; exact rlZ _ rfl (op_loadn_refs rfl (oT rfl) tH tR tR) h) : α := h k
theorem zcm {α β : Prop} (k : β) (h : β → α := by intro h; exact rgZ _ rfl rfl tG (op_loadw_fz rfl (oT rfl) rfl) h) : α := h k
theorem zcn {α β : Prop} (k : β) (h : β → α := by intro h; exact rpZ _ rfl (op_max rfl (oT rfl) oC) h) : α := h k
theorem zco {α β : Prop} (k : β) (h : β → α := by intro h; exact rgZ _ rfl rfl tG (op_pick_and rfl (oO rfl tO) (oO rfl tO)) h) : α := h k
theorem zcp {α β : Prop} (k : β) (h : β → α := by intro h; exact rpZ _ rfl (op_eqS rfl (oT rfl) (oT rfl) (by kernel_rfl)) h) : α := h k
theorem zcq {α β : Prop} (k : β) (h : β → α := by intro h; exact rpZ _ rfl (op_neS rfl (oT rfl) (oT rfl) (by kernel_rfl)) h) : α := h k
theorem zcr {α β : Prop} (k : β) (h : β → α := by intro h; exact rgZ _ rfl rfl tG (op_leq rfl (oO rfl tO) (oO rfl tO)) h) : α := h k
theorem zcs {α β : Prop} (k : β) (h : β → α := by intro h; exact rpZ _ rfl (op_leq rfl (oT rfl) (oT rfl)) h) : α := h k
theorem zct {α β : Prop} (k : β) (h : β → α := by intro h; exact rgZ _ rfl rfl tG (op_lss rfl (oO rfl tO) oC) h) : α := h k
theorem zcu {α β : Prop} (k : β) (h : β → α := by intro h; exact rgZ _ rfl rfl tG (op_idx_fz _ rfl (oO rfl tO) (oO rfl tO) tF) h) : α := h k
theorem zcv {α β : Prop} (k : β) (h : β → α := by intro h; exact rgZ _ rfl rfl tG (op_lss rfl (oO rfl tO) (oO rfl tO)) h) : α := h k
theorem zcw {α β : Prop} (k : β) (h : β → α := by intro h; exact rpZ _ rfl (op_buildSlice_fz rfl (RowsF.cons _ _ _ _ _ _ (oT rfl) tC (by rfl) (RowsF.cons _ _ _ _ _ _ (oT rfl) tC (by rfl) (RowsF.nil _))) rfl rfl) h) : α := h k
theorem zcx {α β : Prop} (k : β) (h : β → α := by intro h; exact Run.eff (dd := _) rfl rfl (op_buildSlice_own rfl (RowsF.nil _) rfl rfl rfl) h) : α := h k
theorem zcy {α β : Prop} (k : β) (h : β → α := by intro h; exact Run.eff (dd := _) rfl rfl (op_append rfl (oT rfl) (oT rfl) rfl rfl rfl rfl tB tB) h) : α := h k
theorem zcz {α β : Prop} (k : β) (h : β → α := by intro h; exact Run.eff (dd := _) rfl rfl (op_buildSlice_own rfl (RowsF.cons _ _ _ _ _ _ (oT rfl) tC (by rfl) (RowsF.nil _)) rfl rfl rfl) h) : α := h k
theorem zda {α β : Prop} (k : β) (h : β → α := by intro h; exact rgZ _ rfl rfl tG (op_pick_or rfl (oO rfl tO) (oO rfl tO)) h) : α := h k
theorem zdb {α β : Prop} (k : β) (h : β → α := by intro h; exact Run.effW (dd := _) rfl rfl (op_append rfl (oT rfl) (oT rfl) rfl (by simp) rfl rfl tB tB) (by first | exact ext_call | exact tE) h) : α := h k
theorem zdc {α β : Prop} (k : β) (h : β → α := by intro h; exact rpZ _ rfl (op_build rfl rfl rfl (FillF.cons _ _ _ _ _ _ _ _ _ _ (by rfl) oC tC (by rfl) tR (FillF.cons _ _ _ _ _ _ _ _ _ _ (by rfl) (oT rfl) tC (by rfl) tR (FillF.cons _ _ _ _ _ _ _ _ _ _ (by rfl) oC tC (by rfl) tR (FillF.nil _))))) h) : α := h k
theorem zdd {α β : Prop} (k : β) (h : β → α := by intro h; exact Run.eff (dd := _) rfl rfl (op_append_own0 rfl (oT rfl) (oT rfl) rfl (by first | rfl | simp) rfl (by first | rfl | simp) rfl rfl tB tB) h) : α := h k
theorem zde {α β : Prop} (k : β) (h : β → α := by intro h; exact rgZ _ rfl rfl tG (op_conv rfl (oO rfl tO) tI) h) : α := h k
theorem zdf {α β : Prop} (k : β) (h : β → α := by intro h; exact Run.effW (dd := _) rfl rfl (op_store_flat rfl (oT rfl) (oT rfl) tC rfl rfl (by first | rfl | assumption) tS) (by first | exact ext_call | exact tE) h) : α := h k
theorem zdg {α β : Prop} (k : β) (h : β → α := by intro h; exact rpZ _ rfl (op_sub rfl (oT rfl) (oT rfl) tI) h) : α := h k
theorem zdh {α β : Prop} (k : β) (h : β → α := by intro h; exact rpZ _ rfl (op_mul rfl oC (oT rfl) tI) h) : α := h k
theorem zdi {α β : Prop} (k : β) (h : β → α := by intro h; exact rpZ _ rfl (op_eqnil rfl (oT rfl)) h) : α := h k
theorem zdj {α β : Prop} (k : β) (h : β → α := by intro h; exact rgZ _ rfl rfl tG (op_nilck_ptr rfl (oO rfl tO)) h) : α := h k
theorem zdk {α β : Prop} (k : β) (h : β → α := by intro h; exact rkZ _ rfl rfl tG (op_load1_refs rfl (oO rfl tO) tH rfl) h) : α := h k
theorem zdl {α β : Prop} (k : β) (h : β → α := by intro h; exact Run.effW (dd := _) rfl rfl (op_alloc rfl rfl rfl rfl) (by first | exact ext_call | exact tE) h) : α := h k
theorem zdm {α β : Prop} (k : β) (h : β → α := by intro h; exact rgZ _ rfl rfl tG (op_neq rfl (oO rfl tO) (oO rfl tO)) h) : α := h k
theorem zdn {α β : Prop} (k : β) (h : β → α := by intro h; exact rgZ _ rfl rfl tG (op_neqB rfl (oO rfl tO) (oO rfl tO)) h) : α := h k
theorem zdo {α β : Prop} (k : β) (h : β → α := by intro h; exact rgZ _ rfl rfl tG (op_add rfl (oO rfl tO) oC tI) h) : α := h k
theorem zdp {α β : Prop} (k : β) (h : β → α := by intro h; exact rpZ _ rfl (op_build rfl rfl rfl (FillF.cons _ _ _ _ _ _ _ _ _ _ (by rfl) (oT rfl) tC (by rfl) tR (FillF.cons _ _ _ _ _ _ _ _ _ _ (by rfl) oC tC (by rfl) tR (FillF.nil _)))) h) : α := h k
theorem zdq {α β : Prop} (k : β) (h : β → α := by intro h; exact rpZ _ rfl (op_build rfl rfl rfl (FillF.cons _ _ _ _ _ _ _ _ _ _ (by rfl) (oT rfl) tC (by rfl) tR (FillF.nil _))) h) : α := h k
theorem zdr {α β : Prop} (k : β) (h : β → α := by intro h; exact rgZ _ rfl rfl tG (op_geq rfl (oO rfl tO) (oO rfl tO)) h) : α := h k
theorem zds {α β : Prop} (k : β) (h : β → α := by intro h; exact rgZ _ rfl rfl tG (op_geq rfl (oO rfl tO) oC) h) : α := h k
theorem zdt {α β : Prop} (k : β) (h : β → α := by intro h; exact rpZ _ rfl (op_geq rfl (oT rfl) (oT rfl)) h) : α := h k
theorem zdu {α β : Prop} (k : β) (h : β → α := by intro h; exact rgZ _ rfl rfl tG (op_neq rfl (oO rfl tO) oC) h) : α := h k
theorem zdv {α β : Prop} (k : β) (h : β → α := by intro h; exact rgZ _ rfl rfl tG (op_loadw_fz rfl (oO rfl tO) rfl) h) : α := h k
theorem zdw {α β : Prop} (k : β) (h : β → α := by intro h; exact rgZ _ rfl rfl tG (op_add rfl (oO rfl tO) (oO rfl tO) tI) h) : α := h k
theorem zdx {α β : Prop} (k : β) (h : β → α := by intro h; exact rgZ _ rfl rfl tG (op_sub rfl (oO rfl tO) (oO rfl tO) tI) h) : α := h k
theorem zdy {α β : Prop} (k : β) (h : β → α := by intro h; exact Run.effW (dd := _) rfl rfl (op_append rfl (oT rfl) (by first | exact Opd.tmp _ _ rfl | exact Opd.nil _ _ (oT rfl)) rfl (by first | rfl | simp) rfl rfl tB tB) (by first | exact ext_call | exact tE) h) : α := h k
theorem wG {α : Prop} (h : α := by repeat (first | exact trivial | refine ⟨⟨_, rfl, .inl ⟨rfl, rfl⟩⟩, ?_⟩ | refine ⟨⟨_, rfl, .inl ⟨slEq rfl tN, rfl⟩⟩, ?_⟩ | refine ⟨⟨_, rfl, .inl ⟨ivEq tX, rfl⟩⟩, ?_⟩)) : α := h
theorem wF {α : Prop} (h : α := by repeat (first | exact trivial | refine ⟨⟨_, rfl, .inl ⟨rfl, rfl⟩⟩, ?_⟩ | refine ⟨⟨_, rfl, .inl ⟨slEq rfl tN, rfl⟩⟩, ?_⟩ | refine ⟨⟨_, rfl, .inl ⟨ivEq tX, rfl⟩⟩, ?_⟩ | refine ⟨⟨_, rfl, .inr ⟨_, rfl, tW⟩⟩, ?_⟩)) : α := h
theorem wS {α : Prop} (h : α := by exact ent_same rfl rfl rfl tL) : α := h
theorem wN {α : Prop} (h : α := by intro _ h; simp at h) : α := h
theorem wR {α : Prop} (h : α := by repeat (first | exact trivial | refine ⟨wS, ?_⟩)) : α := h
theorem wK {α β : Prop} (hC : β) (h : β → α := by intro hC; first | exact keeps0 hC _ | exact keepsN hC _ rfl) : α := h hC
theorem wO {α β : Prop} (hC : β) (h : β → α := by intro hC; first | exact s_o1 hC rfl tV | exact s_o2 hC rfl tV tV | exact s_o3 hC rfl tV tV tV | exact s_o4 hC rfl tV tV tV tV | exact s_out0 hC rfl | exact s_outO hC rfl rfl rfl) : α := h hC
end Go.RT
/- The types and functions of the translation, as the rules ask for them. Written by tab.py. -/
namespace Go.Proofs.YtkofbemgpeagbaaGreat
open Go Go.RT Go.Proofs
set_option linter.unusedVariables false
theorem mixed : Tryz.prog.follows .mixedOrders = true := Tryz.checked.mixed
theorem tyn_of {P : Program} {t : TypeId} {s b : Nat} {z : Value} (h : (P.info? t).map (fun i => (i.size, i.bytes, i.zero)) = some (s, b, some z)) : TyN P t s b z := by
  obtain ⟨i, hi, he⟩ := Option.map_eq_some_iff.1 h
  simp only [Prod.mk.injEq] at he
  exact ⟨i, hi, he.1, he.2.1, he.2.2⟩
instance : TyA Tryz.prog 1 false := ⟨_, Tryz.underlying1, rfl⟩
instance : TyN Tryz.prog 1 1 8 (.nilFunc) := tyn_of (by kernel_rfl)
instance : TyD Tryz.prog 2 (.int .i64) := ⟨Tryz.underlying2⟩
instance : TyA Tryz.prog 2 false := ⟨_, Tryz.underlying2, rfl⟩
instance : TyN Tryz.prog 2 1 8 (.int .i64 0) := tyn_of (by kernel_rfl)
instance : TyD Tryz.prog 3 (.int .i64) := ⟨Tryz.underlying3⟩
instance : TyA Tryz.prog 3 false := ⟨_, Tryz.underlying3, rfl⟩
instance : TyN Tryz.prog 3 1 8 (.int .i64 0) := tyn_of (by kernel_rfl)
instance : TyD Tryz.prog 4 (.bool) := ⟨Tryz.underlying4⟩
instance : TyA Tryz.prog 4 false := ⟨_, Tryz.underlying4, rfl⟩
instance : TyN Tryz.prog 4 1 1 (.bool false) := tyn_of (by kernel_rfl)
instance : TyD Tryz.prog 5 (.int .u8) := ⟨Tryz.underlying5⟩
instance : TyA Tryz.prog 5 false := ⟨_, Tryz.underlying5, rfl⟩
instance : TyN Tryz.prog 5 1 1 (.int .u8 0) := tyn_of (by kernel_rfl)
instance : TyD Tryz.prog 9 (.string) := ⟨Tryz.underlying9⟩
instance : TyA Tryz.prog 9 false := ⟨_, Tryz.underlying9, rfl⟩
instance : TyN Tryz.prog 9 1 16 (.string ⟨#[]⟩) := tyn_of (by kernel_rfl)
instance : TyD Tryz.prog 12 (.int .u64) := ⟨Tryz.underlying12⟩
instance : TyA Tryz.prog 12 false := ⟨_, Tryz.underlying12, rfl⟩
instance : TyN Tryz.prog 12 1 8 (.int .u64 0) := tyn_of (by kernel_rfl)
instance : TyA Tryz.prog 13 true := ⟨_, Tryz.underlying13, rfl⟩
instance : TyN Tryz.prog 13 2 24 (.agg #[.string ⟨#[]⟩, .int .u64 0]) := tyn_of (by kernel_rfl)
instance : TyF Tryz.prog 13 0 0 9 := ⟨_, _, Tryz.underlying13, rfl, rfl, rfl⟩
instance : TyF Tryz.prog 13 1 1 12 := ⟨_, _, Tryz.underlying13, rfl, rfl, rfl⟩
instance : TyB Tryz.prog 13 [(0, 1), (1, 1)] := ⟨_, Tryz.underlying13, fun w => by kernel_rfl⟩
instance : TyD Tryz.prog 21 (.int .i32) := ⟨Tryz.underlying21⟩
instance : TyA Tryz.prog 21 false := ⟨_, Tryz.underlying21, rfl⟩
instance : TyN Tryz.prog 21 1 4 (.int .i32 0) := tyn_of (by kernel_rfl)
instance : TyD Tryz.prog 22 (.int .u32) := ⟨Tryz.underlying22⟩
instance : TyA Tryz.prog 22 false := ⟨_, Tryz.underlying22, rfl⟩
instance : TyN Tryz.prog 22 1 4 (.int .u32 0) := tyn_of (by kernel_rfl)
instance : TyD Tryz.prog 23 (.slice 87) := ⟨Tryz.underlying23⟩
instance : TyA Tryz.prog 23 false := ⟨_, Tryz.underlying23, rfl⟩
instance : TyN Tryz.prog 23 1 24 (.slice none 0 0) := tyn_of (by kernel_rfl)
instance : TyD Tryz.prog 24 (.slice 41) := ⟨Tryz.underlying24⟩
instance : TyA Tryz.prog 24 false := ⟨_, Tryz.underlying24, rfl⟩
instance : TyN Tryz.prog 24 1 24 (.slice none 0 0) := tyn_of (by kernel_rfl)
instance : TyD Tryz.prog 25 (.int .u32) := ⟨Tryz.underlying25⟩
instance : TyA Tryz.prog 25 false := ⟨_, Tryz.underlying25, rfl⟩
instance : TyN Tryz.prog 25 1 4 (.int .u32 0) := tyn_of (by kernel_rfl)
instance : TyA Tryz.prog 26 true := ⟨_, Tryz.underlying26, rfl⟩
instance : TyN Tryz.prog 26 2 16 (.agg #[.int .u32 0, .int .i64 0]) := tyn_of (by kernel_rfl)
instance : TyF Tryz.prog 26 0 0 25 := ⟨_, _, Tryz.underlying26, rfl, rfl, rfl⟩
instance : TyF Tryz.prog 26 1 1 3 := ⟨_, _, Tryz.underlying26, rfl, rfl, rfl⟩
instance : EqS Tryz.prog 26 2 := ⟨by kernel_rfl, by kernel_rfl, by kernel_rfl, by kernel_rfl⟩
instance : TyB Tryz.prog 26 [(0, 1), (1, 1)] := ⟨_, Tryz.underlying26, fun w => by kernel_rfl⟩
instance : TyA Tryz.prog 27 true := ⟨_, Tryz.underlying27, rfl⟩
instance : TyN Tryz.prog 27 2 16 (.agg #[.int .u32 0, .int .i64 0]) := tyn_of (by kernel_rfl)
instance : TyF Tryz.prog 27 0 0 25 := ⟨_, _, Tryz.underlying27, rfl, rfl, rfl⟩
instance : TyF Tryz.prog 27 1 1 3 := ⟨_, _, Tryz.underlying27, rfl, rfl, rfl⟩
instance : EqS Tryz.prog 27 2 := ⟨by kernel_rfl, by kernel_rfl, by kernel_rfl, by kernel_rfl⟩
instance : TyB Tryz.prog 27 [(0, 1), (1, 1)] := ⟨_, Tryz.underlying27, fun w => by kernel_rfl⟩
instance : TyA Tryz.prog 28 false := ⟨_, Tryz.underlying28, rfl⟩
instance : TyN Tryz.prog 28 1 8 (.nilFunc) := tyn_of (by kernel_rfl)
instance : TyA Tryz.prog 29 false := ⟨_, Tryz.underlying29, rfl⟩
instance : TyN Tryz.prog 29 1 8 (.nilFunc) := tyn_of (by kernel_rfl)
instance : TyD Tryz.prog 30 (.slice 106) := ⟨Tryz.underlying30⟩
instance : TyA Tryz.prog 30 false := ⟨_, Tryz.underlying30, rfl⟩
instance : TyN Tryz.prog 30 1 24 (.slice none 0 0) := tyn_of (by kernel_rfl)
instance : TyD Tryz.prog 31 (.slice 22) := ⟨Tryz.underlying31⟩
instance : TyA Tryz.prog 31 false := ⟨_, Tryz.underlying31, rfl⟩
instance : TyN Tryz.prog 31 1 24 (.slice none 0 0) := tyn_of (by kernel_rfl)
instance : TyD Tryz.prog 32 (.slice 69) := ⟨Tryz.underlying32⟩
instance : TyA Tryz.prog 32 false := ⟨_, Tryz.underlying32, rfl⟩
instance : TyN Tryz.prog 32 1 24 (.slice none 0 0) := tyn_of (by kernel_rfl)
instance : TyA Tryz.prog 33 true := ⟨_, Tryz.underlying33, rfl⟩
instance : TyN Tryz.prog 33 6 128 (.agg #[.int .u32 0, .slice none 0 0, .slice none 0 0, .slice none 0 0, .slice none 0 0, .slice none 0 0]) := tyn_of (by kernel_rfl)
instance : TyF Tryz.prog 33 0 0 22 := ⟨_, _, Tryz.underlying33, rfl, rfl, rfl⟩
instance : TyF Tryz.prog 33 1 1 23 := ⟨_, _, Tryz.underlying33, rfl, rfl, rfl⟩
instance : TyF Tryz.prog 33 2 2 30 := ⟨_, _, Tryz.underlying33, rfl, rfl, rfl⟩
instance : TyF Tryz.prog 33 3 3 30 := ⟨_, _, Tryz.underlying33, rfl, rfl, rfl⟩
instance : TyF Tryz.prog 33 4 4 31 := ⟨_, _, Tryz.underlying33, rfl, rfl, rfl⟩
instance : TyF Tryz.prog 33 5 5 32 := ⟨_, _, Tryz.underlying33, rfl, rfl, rfl⟩
instance : TyB Tryz.prog 33 [(0, 1), (1, 1), (2, 1), (3, 1), (4, 1), (5, 1)] := ⟨_, Tryz.underlying33, fun w => by kernel_rfl⟩
instance : TyA Tryz.prog 34 true := ⟨_, Tryz.underlying34, rfl⟩
instance : TyN Tryz.prog 34 6 128 (.agg #[.int .u32 0, .slice none 0 0, .slice none 0 0, .slice none 0 0, .slice none 0 0, .slice none 0 0]) := tyn_of (by kernel_rfl)
instance : TyF Tryz.prog 34 0 0 22 := ⟨_, _, Tryz.underlying34, rfl, rfl, rfl⟩
instance : TyF Tryz.prog 34 1 1 23 := ⟨_, _, Tryz.underlying34, rfl, rfl, rfl⟩
instance : TyF Tryz.prog 34 2 2 30 := ⟨_, _, Tryz.underlying34, rfl, rfl, rfl⟩
instance : TyF Tryz.prog 34 3 3 30 := ⟨_, _, Tryz.underlying34, rfl, rfl, rfl⟩
instance : TyF Tryz.prog 34 4 4 31 := ⟨_, _, Tryz.underlying34, rfl, rfl, rfl⟩
instance : TyF Tryz.prog 34 5 5 32 := ⟨_, _, Tryz.underlying34, rfl, rfl, rfl⟩
instance : TyB Tryz.prog 34 [(0, 1), (1, 1), (2, 1), (3, 1), (4, 1), (5, 1)] := ⟨_, Tryz.underlying34, fun w => by kernel_rfl⟩
instance : TyD Tryz.prog 35 (.int .i64) := ⟨Tryz.underlying35⟩
instance : TyA Tryz.prog 35 false := ⟨_, Tryz.underlying35, rfl⟩
instance : TyN Tryz.prog 35 1 8 (.int .i64 0) := tyn_of (by kernel_rfl)
instance : TyA Tryz.prog 37 false := ⟨_, Tryz.underlying37, rfl⟩
instance : TyN Tryz.prog 37 1 8 (.nilFunc) := tyn_of (by kernel_rfl)
instance : TyA Tryz.prog 38 false := ⟨_, Tryz.underlying38, rfl⟩
instance : TyN Tryz.prog 38 1 8 (.nilFunc) := tyn_of (by kernel_rfl)
instance : TyD Tryz.prog 39 (.slice 5) := ⟨Tryz.underlying39⟩
instance : TyA Tryz.prog 39 false := ⟨_, Tryz.underlying39, rfl⟩
instance : TyN Tryz.prog 39 1 24 (.slice none 0 0) := tyn_of (by kernel_rfl)
instance : TyA Tryz.prog 40 true := ⟨_, Tryz.underlying40, rfl⟩
instance : TyN Tryz.prog 40 4 64 (.agg #[.int .i64 0, .int .u32 0, .slice none 0 0, .slice none 0 0]) := tyn_of (by kernel_rfl)
instance : TyF Tryz.prog 40 0 0 3 := ⟨_, _, Tryz.underlying40, rfl, rfl, rfl⟩
instance : TyF Tryz.prog 40 1 1 22 := ⟨_, _, Tryz.underlying40, rfl, rfl, rfl⟩
instance : TyF Tryz.prog 40 2 2 39 := ⟨_, _, Tryz.underlying40, rfl, rfl, rfl⟩
instance : TyF Tryz.prog 40 3 3 32 := ⟨_, _, Tryz.underlying40, rfl, rfl, rfl⟩
instance : TyB Tryz.prog 40 [(0, 1), (1, 1), (2, 1), (3, 1)] := ⟨_, Tryz.underlying40, fun w => by kernel_rfl⟩
instance : TyA Tryz.prog 41 true := ⟨_, Tryz.underlying41, rfl⟩
instance : TyN Tryz.prog 41 4 64 (.agg #[.int .i64 0, .int .u32 0, .slice none 0 0, .slice none 0 0]) := tyn_of (by kernel_rfl)
instance : TyF Tryz.prog 41 0 0 3 := ⟨_, _, Tryz.underlying41, rfl, rfl, rfl⟩
instance : TyF Tryz.prog 41 1 1 22 := ⟨_, _, Tryz.underlying41, rfl, rfl, rfl⟩
instance : TyF Tryz.prog 41 2 2 39 := ⟨_, _, Tryz.underlying41, rfl, rfl, rfl⟩
instance : TyF Tryz.prog 41 3 3 32 := ⟨_, _, Tryz.underlying41, rfl, rfl, rfl⟩
instance : TyB Tryz.prog 41 [(0, 1), (1, 1), (2, 1), (3, 1)] := ⟨_, Tryz.underlying41, fun w => by kernel_rfl⟩
instance : TyD Tryz.prog 42 (.slice 104) := ⟨Tryz.underlying42⟩
instance : TyA Tryz.prog 42 false := ⟨_, Tryz.underlying42, rfl⟩
instance : TyN Tryz.prog 42 1 24 (.slice none 0 0) := tyn_of (by kernel_rfl)
instance : TyA Tryz.prog 44 false := ⟨_, Tryz.underlying44, rfl⟩
instance : TyN Tryz.prog 44 1 8 (.nilFunc) := tyn_of (by kernel_rfl)
instance : TyA Tryz.prog 45 false := ⟨_, Tryz.underlying45, rfl⟩
instance : TyN Tryz.prog 45 1 8 (.nilFunc) := tyn_of (by kernel_rfl)
instance : TyA Tryz.prog 46 false := ⟨_, Tryz.underlying46, rfl⟩
instance : TyN Tryz.prog 46 1 8 (.nilFunc) := tyn_of (by kernel_rfl)
instance : TyD Tryz.prog 47 (.slice 81) := ⟨Tryz.underlying47⟩
instance : TyA Tryz.prog 47 false := ⟨_, Tryz.underlying47, rfl⟩
instance : TyN Tryz.prog 47 1 24 (.slice none 0 0) := tyn_of (by kernel_rfl)
instance : TyA Tryz.prog 48 false := ⟨_, Tryz.underlying48, rfl⟩
instance : TyN Tryz.prog 48 1 8 (.nilFunc) := tyn_of (by kernel_rfl)
instance : TyA Tryz.prog 49 false := ⟨_, Tryz.underlying49, rfl⟩
instance : TyN Tryz.prog 49 1 8 (.nilFunc) := tyn_of (by kernel_rfl)
instance : TyD Tryz.prog 50 (.slice 83) := ⟨Tryz.underlying50⟩
instance : TyA Tryz.prog 50 false := ⟨_, Tryz.underlying50, rfl⟩
instance : TyN Tryz.prog 50 1 24 (.slice none 0 0) := tyn_of (by kernel_rfl)
instance : TyA Tryz.prog 51 false := ⟨_, Tryz.underlying51, rfl⟩
instance : TyN Tryz.prog 51 1 8 (.nilFunc) := tyn_of (by kernel_rfl)
instance : TyA Tryz.prog 52 false := ⟨_, Tryz.underlying52, rfl⟩
instance : TyN Tryz.prog 52 1 8 (.nilFunc) := tyn_of (by kernel_rfl)
instance : TyD Tryz.prog 53 (.slice 164) := ⟨Tryz.underlying53⟩
instance : TyA Tryz.prog 53 false := ⟨_, Tryz.underlying53, rfl⟩
instance : TyN Tryz.prog 53 1 24 (.slice none 0 0) := tyn_of (by kernel_rfl)
instance : TyD Tryz.prog 54 (.slice 115) := ⟨Tryz.underlying54⟩
instance : TyA Tryz.prog 54 false := ⟨_, Tryz.underlying54, rfl⟩
instance : TyN Tryz.prog 54 1 24 (.slice none 0 0) := tyn_of (by kernel_rfl)
instance : TyA Tryz.prog 55 true := ⟨_, Tryz.underlying55, rfl⟩
instance : TyN Tryz.prog 55 3 40 (.agg #[.int .i64 0, .int .i64 0, .slice none 0 0]) := tyn_of (by kernel_rfl)
instance : TyF Tryz.prog 55 0 0 3 := ⟨_, _, Tryz.underlying55, rfl, rfl, rfl⟩
instance : TyF Tryz.prog 55 1 1 3 := ⟨_, _, Tryz.underlying55, rfl, rfl, rfl⟩
instance : TyF Tryz.prog 55 2 2 54 := ⟨_, _, Tryz.underlying55, rfl, rfl, rfl⟩
instance : TyB Tryz.prog 55 [(0, 1), (1, 1), (2, 1)] := ⟨_, Tryz.underlying55, fun w => by kernel_rfl⟩
instance : TyA Tryz.prog 56 true := ⟨_, Tryz.underlying56, rfl⟩
instance : TyN Tryz.prog 56 3 40 (.agg #[.int .i64 0, .int .i64 0, .slice none 0 0]) := tyn_of (by kernel_rfl)
instance : TyF Tryz.prog 56 0 0 3 := ⟨_, _, Tryz.underlying56, rfl, rfl, rfl⟩
instance : TyF Tryz.prog 56 1 1 3 := ⟨_, _, Tryz.underlying56, rfl, rfl, rfl⟩
instance : TyF Tryz.prog 56 2 2 54 := ⟨_, _, Tryz.underlying56, rfl, rfl, rfl⟩
instance : TyB Tryz.prog 56 [(0, 1), (1, 1), (2, 1)] := ⟨_, Tryz.underlying56, fun w => by kernel_rfl⟩
instance : TyA Tryz.prog 57 false := ⟨_, Tryz.underlying57, rfl⟩
instance : TyN Tryz.prog 57 1 8 (.nilFunc) := tyn_of (by kernel_rfl)
instance : TyD Tryz.prog 58 (.pointer 119) := ⟨Tryz.underlying58⟩
instance : TyA Tryz.prog 58 false := ⟨_, Tryz.underlying58, rfl⟩
instance : TyN Tryz.prog 58 1 8 (.pointer none) := tyn_of (by kernel_rfl)
instance : TyA Tryz.prog 60 false := ⟨_, Tryz.underlying60, rfl⟩
instance : TyN Tryz.prog 60 1 8 (.nilFunc) := tyn_of (by kernel_rfl)
instance : TyD Tryz.prog 61 (.slice 3) := ⟨Tryz.underlying61⟩
instance : TyA Tryz.prog 61 false := ⟨_, Tryz.underlying61, rfl⟩
instance : TyN Tryz.prog 61 1 24 (.slice none 0 0) := tyn_of (by kernel_rfl)
instance : TyD Tryz.prog 62 (.slice 61) := ⟨Tryz.underlying62⟩
instance : TyA Tryz.prog 62 false := ⟨_, Tryz.underlying62, rfl⟩
instance : TyN Tryz.prog 62 1 24 (.slice none 0 0) := tyn_of (by kernel_rfl)
instance : TyA Tryz.prog 63 true := ⟨_, Tryz.underlying63, rfl⟩
instance : TyN Tryz.prog 63 4 80 (.agg #[.int .i64 0, .slice none 0 0, .slice none 0 0, .slice none 0 0]) := tyn_of (by kernel_rfl)
instance : TyF Tryz.prog 63 0 0 3 := ⟨_, _, Tryz.underlying63, rfl, rfl, rfl⟩
instance : TyF Tryz.prog 63 1 1 61 := ⟨_, _, Tryz.underlying63, rfl, rfl, rfl⟩
instance : TyF Tryz.prog 63 2 2 62 := ⟨_, _, Tryz.underlying63, rfl, rfl, rfl⟩
instance : TyF Tryz.prog 63 3 3 62 := ⟨_, _, Tryz.underlying63, rfl, rfl, rfl⟩
instance : TyB Tryz.prog 63 [(0, 1), (1, 1), (2, 1), (3, 1)] := ⟨_, Tryz.underlying63, fun w => by kernel_rfl⟩
instance : TyA Tryz.prog 64 true := ⟨_, Tryz.underlying64, rfl⟩
instance : TyN Tryz.prog 64 4 80 (.agg #[.int .i64 0, .slice none 0 0, .slice none 0 0, .slice none 0 0]) := tyn_of (by kernel_rfl)
instance : TyF Tryz.prog 64 0 0 3 := ⟨_, _, Tryz.underlying64, rfl, rfl, rfl⟩
instance : TyF Tryz.prog 64 1 1 61 := ⟨_, _, Tryz.underlying64, rfl, rfl, rfl⟩
instance : TyF Tryz.prog 64 2 2 62 := ⟨_, _, Tryz.underlying64, rfl, rfl, rfl⟩
instance : TyF Tryz.prog 64 3 3 62 := ⟨_, _, Tryz.underlying64, rfl, rfl, rfl⟩
instance : TyB Tryz.prog 64 [(0, 1), (1, 1), (2, 1), (3, 1)] := ⟨_, Tryz.underlying64, fun w => by kernel_rfl⟩
instance : TyA Tryz.prog 66 false := ⟨_, Tryz.underlying66, rfl⟩
instance : TyN Tryz.prog 66 1 8 (.nilFunc) := tyn_of (by kernel_rfl)
instance : TyA Tryz.prog 67 false := ⟨_, Tryz.underlying67, rfl⟩
instance : TyN Tryz.prog 67 1 8 (.nilFunc) := tyn_of (by kernel_rfl)
instance : TyA Tryz.prog 68 true := ⟨_, Tryz.underlying68, rfl⟩
instance : TyN Tryz.prog 68 4 48 (.agg #[.int .u32 0, .int .i64 0, .bool false, .slice none 0 0]) := tyn_of (by kernel_rfl)
instance : TyF Tryz.prog 68 0 0 27 := ⟨_, _, Tryz.underlying68, rfl, rfl, rfl⟩
instance : TyF Tryz.prog 68 1 2 4 := ⟨_, _, Tryz.underlying68, rfl, rfl, rfl⟩
instance : TyF Tryz.prog 68 2 3 31 := ⟨_, _, Tryz.underlying68, rfl, rfl, rfl⟩
instance : TyB Tryz.prog 68 [(0, 2), (2, 1), (3, 1)] := ⟨_, Tryz.underlying68, fun w => by kernel_rfl⟩
instance : TyA Tryz.prog 69 true := ⟨_, Tryz.underlying69, rfl⟩
instance : TyN Tryz.prog 69 4 48 (.agg #[.int .u32 0, .int .i64 0, .bool false, .slice none 0 0]) := tyn_of (by kernel_rfl)
instance : TyF Tryz.prog 69 0 0 27 := ⟨_, _, Tryz.underlying69, rfl, rfl, rfl⟩
instance : TyF Tryz.prog 69 1 2 4 := ⟨_, _, Tryz.underlying69, rfl, rfl, rfl⟩
instance : TyF Tryz.prog 69 2 3 31 := ⟨_, _, Tryz.underlying69, rfl, rfl, rfl⟩
instance : TyB Tryz.prog 69 [(0, 2), (2, 1), (3, 1)] := ⟨_, Tryz.underlying69, fun w => by kernel_rfl⟩
instance : TyA Tryz.prog 70 false := ⟨_, Tryz.underlying70, rfl⟩
instance : TyN Tryz.prog 70 1 8 (.nilFunc) := tyn_of (by kernel_rfl)
instance : TyA Tryz.prog 71 false := ⟨_, Tryz.underlying71, rfl⟩
instance : TyN Tryz.prog 71 1 8 (.nilFunc) := tyn_of (by kernel_rfl)
instance : TyA Tryz.prog 72 false := ⟨_, Tryz.underlying72, rfl⟩
instance : TyN Tryz.prog 72 1 8 (.nilFunc) := tyn_of (by kernel_rfl)
instance : TyA Tryz.prog 73 false := ⟨_, Tryz.underlying73, rfl⟩
instance : TyN Tryz.prog 73 1 8 (.nilFunc) := tyn_of (by kernel_rfl)
instance : TyA Tryz.prog 74 true := ⟨_, Tryz.underlying74, rfl⟩
instance : TyN Tryz.prog 74 4 32 (.agg #[.int .i64 0, .int .u32 0, .int .i64 0, .int .i64 0]) := tyn_of (by kernel_rfl)
instance : TyF Tryz.prog 74 0 0 3 := ⟨_, _, Tryz.underlying74, rfl, rfl, rfl⟩
instance : TyF Tryz.prog 74 1 1 27 := ⟨_, _, Tryz.underlying74, rfl, rfl, rfl⟩
instance : TyF Tryz.prog 74 2 3 3 := ⟨_, _, Tryz.underlying74, rfl, rfl, rfl⟩
instance : TyB Tryz.prog 74 [(0, 1), (1, 2), (3, 1)] := ⟨_, Tryz.underlying74, fun w => by kernel_rfl⟩
instance : TyA Tryz.prog 75 true := ⟨_, Tryz.underlying75, rfl⟩
instance : TyN Tryz.prog 75 4 32 (.agg #[.int .i64 0, .int .u32 0, .int .i64 0, .int .i64 0]) := tyn_of (by kernel_rfl)
instance : TyF Tryz.prog 75 0 0 3 := ⟨_, _, Tryz.underlying75, rfl, rfl, rfl⟩
instance : TyF Tryz.prog 75 1 1 27 := ⟨_, _, Tryz.underlying75, rfl, rfl, rfl⟩
instance : TyF Tryz.prog 75 2 3 3 := ⟨_, _, Tryz.underlying75, rfl, rfl, rfl⟩
instance : TyB Tryz.prog 75 [(0, 1), (1, 2), (3, 1)] := ⟨_, Tryz.underlying75, fun w => by kernel_rfl⟩
instance : TyA Tryz.prog 77 false := ⟨_, Tryz.underlying77, rfl⟩
instance : TyN Tryz.prog 77 1 8 (.nilFunc) := tyn_of (by kernel_rfl)
instance : TyA Tryz.prog 78 false := ⟨_, Tryz.underlying78, rfl⟩
instance : TyN Tryz.prog 78 1 8 (.nilFunc) := tyn_of (by kernel_rfl)
instance : TyA Tryz.prog 79 false := ⟨_, Tryz.underlying79, rfl⟩
instance : TyN Tryz.prog 79 1 8 (.nilFunc) := tyn_of (by kernel_rfl)
instance : TyA Tryz.prog 80 true := ⟨_, Tryz.underlying80, rfl⟩
instance : TyN Tryz.prog 80 2 32 (.agg #[.int .i64 0, .slice none 0 0]) := tyn_of (by kernel_rfl)
instance : TyF Tryz.prog 80 0 0 3 := ⟨_, _, Tryz.underlying80, rfl, rfl, rfl⟩
instance : TyF Tryz.prog 80 1 1 50 := ⟨_, _, Tryz.underlying80, rfl, rfl, rfl⟩
instance : TyB Tryz.prog 80 [(0, 1), (1, 1)] := ⟨_, Tryz.underlying80, fun w => by kernel_rfl⟩
instance : TyA Tryz.prog 81 true := ⟨_, Tryz.underlying81, rfl⟩
instance : TyN Tryz.prog 81 2 32 (.agg #[.int .i64 0, .slice none 0 0]) := tyn_of (by kernel_rfl)
instance : TyF Tryz.prog 81 0 0 3 := ⟨_, _, Tryz.underlying81, rfl, rfl, rfl⟩
instance : TyF Tryz.prog 81 1 1 50 := ⟨_, _, Tryz.underlying81, rfl, rfl, rfl⟩
instance : TyB Tryz.prog 81 [(0, 1), (1, 1)] := ⟨_, Tryz.underlying81, fun w => by kernel_rfl⟩
instance : TyA Tryz.prog 82 true := ⟨_, Tryz.underlying82, rfl⟩
instance : TyN Tryz.prog 82 2 16 (.agg #[.int .u32 0, .int .i64 0]) := tyn_of (by kernel_rfl)
instance : TyF Tryz.prog 82 0 0 22 := ⟨_, _, Tryz.underlying82, rfl, rfl, rfl⟩
instance : TyF Tryz.prog 82 1 1 3 := ⟨_, _, Tryz.underlying82, rfl, rfl, rfl⟩
instance : EqS Tryz.prog 82 2 := ⟨by kernel_rfl, by kernel_rfl, by kernel_rfl, by kernel_rfl⟩
instance : TyB Tryz.prog 82 [(0, 1), (1, 1)] := ⟨_, Tryz.underlying82, fun w => by kernel_rfl⟩
instance : TyA Tryz.prog 83 true := ⟨_, Tryz.underlying83, rfl⟩
instance : TyN Tryz.prog 83 2 16 (.agg #[.int .u32 0, .int .i64 0]) := tyn_of (by kernel_rfl)
instance : TyF Tryz.prog 83 0 0 22 := ⟨_, _, Tryz.underlying83, rfl, rfl, rfl⟩
instance : TyF Tryz.prog 83 1 1 3 := ⟨_, _, Tryz.underlying83, rfl, rfl, rfl⟩
instance : EqS Tryz.prog 83 2 := ⟨by kernel_rfl, by kernel_rfl, by kernel_rfl, by kernel_rfl⟩
instance : TyB Tryz.prog 83 [(0, 1), (1, 1)] := ⟨_, Tryz.underlying83, fun w => by kernel_rfl⟩
instance : TyA Tryz.prog 84 false := ⟨_, Tryz.underlying84, rfl⟩
instance : TyN Tryz.prog 84 1 8 (.nilFunc) := tyn_of (by kernel_rfl)
instance : TyA Tryz.prog 85 false := ⟨_, Tryz.underlying85, rfl⟩
instance : TyN Tryz.prog 85 1 8 (.nilFunc) := tyn_of (by kernel_rfl)
instance : TyA Tryz.prog 86 true := ⟨_, Tryz.underlying86, rfl⟩
instance : TyN Tryz.prog 86 2 16 (.agg #[.int .i64 0, .int .i64 0]) := tyn_of (by kernel_rfl)
instance : TyF Tryz.prog 86 0 0 3 := ⟨_, _, Tryz.underlying86, rfl, rfl, rfl⟩
instance : TyF Tryz.prog 86 1 1 3 := ⟨_, _, Tryz.underlying86, rfl, rfl, rfl⟩
instance : EqS Tryz.prog 86 2 := ⟨by kernel_rfl, by kernel_rfl, by kernel_rfl, by kernel_rfl⟩
instance : TyB Tryz.prog 86 [(0, 1), (1, 1)] := ⟨_, Tryz.underlying86, fun w => by kernel_rfl⟩
instance : TyA Tryz.prog 87 true := ⟨_, Tryz.underlying87, rfl⟩
instance : TyN Tryz.prog 87 2 16 (.agg #[.int .i64 0, .int .i64 0]) := tyn_of (by kernel_rfl)
instance : TyF Tryz.prog 87 0 0 3 := ⟨_, _, Tryz.underlying87, rfl, rfl, rfl⟩
instance : TyF Tryz.prog 87 1 1 3 := ⟨_, _, Tryz.underlying87, rfl, rfl, rfl⟩
instance : EqS Tryz.prog 87 2 := ⟨by kernel_rfl, by kernel_rfl, by kernel_rfl, by kernel_rfl⟩
instance : TyB Tryz.prog 87 [(0, 1), (1, 1)] := ⟨_, Tryz.underlying87, fun w => by kernel_rfl⟩
instance : TyA Tryz.prog 88 false := ⟨_, Tryz.underlying88, rfl⟩
instance : TyN Tryz.prog 88 1 8 (.nilFunc) := tyn_of (by kernel_rfl)
instance : TyA Tryz.prog 89 false := ⟨_, Tryz.underlying89, rfl⟩
instance : TyN Tryz.prog 89 1 8 (.nilFunc) := tyn_of (by kernel_rfl)
instance : TyA Tryz.prog 90 false := ⟨_, Tryz.underlying90, rfl⟩
instance : TyN Tryz.prog 90 1 8 (.nilFunc) := tyn_of (by kernel_rfl)
instance : TyA Tryz.prog 91 false := ⟨_, Tryz.underlying91, rfl⟩
instance : TyN Tryz.prog 91 1 8 (.nilFunc) := tyn_of (by kernel_rfl)
instance : TyD Tryz.prog 92 (.pointer 95) := ⟨Tryz.underlying92⟩
instance : TyA Tryz.prog 92 false := ⟨_, Tryz.underlying92, rfl⟩
instance : TyN Tryz.prog 92 1 8 (.pointer none) := tyn_of (by kernel_rfl)
instance : TyA Tryz.prog 93 false := ⟨_, Tryz.underlying93, rfl⟩
instance : TyN Tryz.prog 93 1 8 (.nilFunc) := tyn_of (by kernel_rfl)
instance : TyA Tryz.prog 94 true := ⟨_, Tryz.underlying94, rfl⟩
instance : TyN Tryz.prog 94 7 152 (.agg #[.int .u32 0, .slice none 0 0, .slice none 0 0, .slice none 0 0, .slice none 0 0, .slice none 0 0, .slice none 0 0]) := tyn_of (by kernel_rfl)
instance : TyF Tryz.prog 94 0 0 34 := ⟨_, _, Tryz.underlying94, rfl, rfl, rfl⟩
instance : TyF Tryz.prog 94 1 6 42 := ⟨_, _, Tryz.underlying94, rfl, rfl, rfl⟩
instance : TyB Tryz.prog 94 [(0, 6), (6, 1)] := ⟨_, Tryz.underlying94, fun w => by kernel_rfl⟩
instance : TyA Tryz.prog 95 true := ⟨_, Tryz.underlying95, rfl⟩
instance : TyN Tryz.prog 95 7 152 (.agg #[.int .u32 0, .slice none 0 0, .slice none 0 0, .slice none 0 0, .slice none 0 0, .slice none 0 0, .slice none 0 0]) := tyn_of (by kernel_rfl)
instance : TyF Tryz.prog 95 0 0 34 := ⟨_, _, Tryz.underlying95, rfl, rfl, rfl⟩
instance : TyF Tryz.prog 95 1 6 42 := ⟨_, _, Tryz.underlying95, rfl, rfl, rfl⟩
instance : TyB Tryz.prog 95 [(0, 6), (6, 1)] := ⟨_, Tryz.underlying95, fun w => by kernel_rfl⟩
instance : TyA Tryz.prog 96 false := ⟨_, Tryz.underlying96, rfl⟩
instance : TyN Tryz.prog 96 1 8 (.nilFunc) := tyn_of (by kernel_rfl)
instance : TyA Tryz.prog 97 false := ⟨_, Tryz.underlying97, rfl⟩
instance : TyN Tryz.prog 97 1 8 (.nilFunc) := tyn_of (by kernel_rfl)
instance : TyA Tryz.prog 98 false := ⟨_, Tryz.underlying98, rfl⟩
instance : TyN Tryz.prog 98 1 8 (.nilFunc) := tyn_of (by kernel_rfl)
instance : TyA Tryz.prog 99 false := ⟨_, Tryz.underlying99, rfl⟩
instance : TyN Tryz.prog 99 1 8 (.nilFunc) := tyn_of (by kernel_rfl)
instance : TyA Tryz.prog 100 false := ⟨_, Tryz.underlying100, rfl⟩
instance : TyN Tryz.prog 100 1 8 (.nilFunc) := tyn_of (by kernel_rfl)
instance : TyA Tryz.prog 101 false := ⟨_, Tryz.underlying101, rfl⟩
instance : TyN Tryz.prog 101 1 8 (.nilFunc) := tyn_of (by kernel_rfl)
instance : TyA Tryz.prog 102 false := ⟨_, Tryz.underlying102, rfl⟩
instance : TyN Tryz.prog 102 1 8 (.nilFunc) := tyn_of (by kernel_rfl)
instance : TyA Tryz.prog 103 true := ⟨_, Tryz.underlying103, rfl⟩
instance : TyN Tryz.prog 103 2 32 (.agg #[.int .u32 0, .slice none 0 0]) := tyn_of (by kernel_rfl)
instance : TyF Tryz.prog 103 0 0 22 := ⟨_, _, Tryz.underlying103, rfl, rfl, rfl⟩
instance : TyF Tryz.prog 103 1 1 39 := ⟨_, _, Tryz.underlying103, rfl, rfl, rfl⟩
instance : TyB Tryz.prog 103 [(0, 1), (1, 1)] := ⟨_, Tryz.underlying103, fun w => by kernel_rfl⟩
instance : TyA Tryz.prog 104 true := ⟨_, Tryz.underlying104, rfl⟩
instance : TyN Tryz.prog 104 2 32 (.agg #[.int .u32 0, .slice none 0 0]) := tyn_of (by kernel_rfl)
instance : TyF Tryz.prog 104 0 0 22 := ⟨_, _, Tryz.underlying104, rfl, rfl, rfl⟩
instance : TyF Tryz.prog 104 1 1 39 := ⟨_, _, Tryz.underlying104, rfl, rfl, rfl⟩
instance : TyB Tryz.prog 104 [(0, 1), (1, 1)] := ⟨_, Tryz.underlying104, fun w => by kernel_rfl⟩
instance : TyA Tryz.prog 105 true := ⟨_, Tryz.underlying105, rfl⟩
instance : TyN Tryz.prog 105 4 32 (.agg #[.int .u32 0, .int .i64 0, .int .u32 0, .int .i64 0]) := tyn_of (by kernel_rfl)
instance : TyF Tryz.prog 105 0 0 27 := ⟨_, _, Tryz.underlying105, rfl, rfl, rfl⟩
instance : TyF Tryz.prog 105 1 2 22 := ⟨_, _, Tryz.underlying105, rfl, rfl, rfl⟩
instance : TyF Tryz.prog 105 2 3 3 := ⟨_, _, Tryz.underlying105, rfl, rfl, rfl⟩
instance : TyB Tryz.prog 105 [(0, 2), (2, 1), (3, 1)] := ⟨_, Tryz.underlying105, fun w => by kernel_rfl⟩
instance : TyA Tryz.prog 106 true := ⟨_, Tryz.underlying106, rfl⟩
instance : TyN Tryz.prog 106 4 32 (.agg #[.int .u32 0, .int .i64 0, .int .u32 0, .int .i64 0]) := tyn_of (by kernel_rfl)
instance : TyF Tryz.prog 106 0 0 27 := ⟨_, _, Tryz.underlying106, rfl, rfl, rfl⟩
instance : TyF Tryz.prog 106 1 2 22 := ⟨_, _, Tryz.underlying106, rfl, rfl, rfl⟩
instance : TyF Tryz.prog 106 2 3 3 := ⟨_, _, Tryz.underlying106, rfl, rfl, rfl⟩
instance : TyB Tryz.prog 106 [(0, 2), (2, 1), (3, 1)] := ⟨_, Tryz.underlying106, fun w => by kernel_rfl⟩
instance : TyA Tryz.prog 107 false := ⟨_, Tryz.underlying107, rfl⟩
instance : TyN Tryz.prog 107 1 8 (.nilFunc) := tyn_of (by kernel_rfl)
instance : TyA Tryz.prog 108 false := ⟨_, Tryz.underlying108, rfl⟩
instance : TyN Tryz.prog 108 1 8 (.nilFunc) := tyn_of (by kernel_rfl)
instance : TyA Tryz.prog 110 false := ⟨_, Tryz.underlying110, rfl⟩
instance : TyN Tryz.prog 110 1 8 (.nilFunc) := tyn_of (by kernel_rfl)
instance : TyA Tryz.prog 112 false := ⟨_, Tryz.underlying112, rfl⟩
instance : TyN Tryz.prog 112 1 8 (.nilFunc) := tyn_of (by kernel_rfl)
instance : TyA Tryz.prog 113 false := ⟨_, Tryz.underlying113, rfl⟩
instance : TyN Tryz.prog 113 1 8 (.nilFunc) := tyn_of (by kernel_rfl)
instance : TyA Tryz.prog 114 true := ⟨_, Tryz.underlying114, rfl⟩
instance : TyN Tryz.prog 114 3 24 (.agg #[.int .i64 0, .int .i64 0, .int .i64 0]) := tyn_of (by kernel_rfl)
instance : TyF Tryz.prog 114 0 0 3 := ⟨_, _, Tryz.underlying114, rfl, rfl, rfl⟩
instance : TyF Tryz.prog 114 1 1 3 := ⟨_, _, Tryz.underlying114, rfl, rfl, rfl⟩
instance : TyF Tryz.prog 114 2 2 3 := ⟨_, _, Tryz.underlying114, rfl, rfl, rfl⟩
instance : EqS Tryz.prog 114 3 := ⟨by kernel_rfl, by kernel_rfl, by kernel_rfl, by kernel_rfl⟩
instance : TyB Tryz.prog 114 [(0, 1), (1, 1), (2, 1)] := ⟨_, Tryz.underlying114, fun w => by kernel_rfl⟩
instance : TyA Tryz.prog 115 true := ⟨_, Tryz.underlying115, rfl⟩
instance : TyN Tryz.prog 115 3 24 (.agg #[.int .i64 0, .int .i64 0, .int .i64 0]) := tyn_of (by kernel_rfl)
instance : TyF Tryz.prog 115 0 0 3 := ⟨_, _, Tryz.underlying115, rfl, rfl, rfl⟩
instance : TyF Tryz.prog 115 1 1 3 := ⟨_, _, Tryz.underlying115, rfl, rfl, rfl⟩
instance : TyF Tryz.prog 115 2 2 3 := ⟨_, _, Tryz.underlying115, rfl, rfl, rfl⟩
instance : EqS Tryz.prog 115 3 := ⟨by kernel_rfl, by kernel_rfl, by kernel_rfl, by kernel_rfl⟩
instance : TyB Tryz.prog 115 [(0, 1), (1, 1), (2, 1)] := ⟨_, Tryz.underlying115, fun w => by kernel_rfl⟩
instance : TyD Tryz.prog 116 (.slice 34) := ⟨Tryz.underlying116⟩
instance : TyA Tryz.prog 116 false := ⟨_, Tryz.underlying116, rfl⟩
instance : TyN Tryz.prog 116 1 24 (.slice none 0 0) := tyn_of (by kernel_rfl)
instance : TyD Tryz.prog 117 (.slice 126) := ⟨Tryz.underlying117⟩
instance : TyA Tryz.prog 117 false := ⟨_, Tryz.underlying117, rfl⟩
instance : TyN Tryz.prog 117 1 24 (.slice none 0 0) := tyn_of (by kernel_rfl)
instance : TyA Tryz.prog 118 true := ⟨_, Tryz.underlying118, rfl⟩
instance : TyN Tryz.prog 118 2 48 (.agg #[.slice none 0 0, .slice none 0 0]) := tyn_of (by kernel_rfl)
instance : TyF Tryz.prog 118 0 0 116 := ⟨_, _, Tryz.underlying118, rfl, rfl, rfl⟩
instance : TyF Tryz.prog 118 1 1 117 := ⟨_, _, Tryz.underlying118, rfl, rfl, rfl⟩
instance : TyB Tryz.prog 118 [(0, 1), (1, 1)] := ⟨_, Tryz.underlying118, fun w => by kernel_rfl⟩
instance : TyA Tryz.prog 119 true := ⟨_, Tryz.underlying119, rfl⟩
instance : TyN Tryz.prog 119 2 48 (.agg #[.slice none 0 0, .slice none 0 0]) := tyn_of (by kernel_rfl)
instance : TyF Tryz.prog 119 0 0 116 := ⟨_, _, Tryz.underlying119, rfl, rfl, rfl⟩
instance : TyF Tryz.prog 119 1 1 117 := ⟨_, _, Tryz.underlying119, rfl, rfl, rfl⟩
instance : TyB Tryz.prog 119 [(0, 1), (1, 1)] := ⟨_, Tryz.underlying119, fun w => by kernel_rfl⟩
instance : TyA Tryz.prog 120 false := ⟨_, Tryz.underlying120, rfl⟩
instance : TyN Tryz.prog 120 1 8 (.nilFunc) := tyn_of (by kernel_rfl)
instance : TyA Tryz.prog 121 false := ⟨_, Tryz.underlying121, rfl⟩
instance : TyN Tryz.prog 121 1 8 (.nilFunc) := tyn_of (by kernel_rfl)
instance : TyA Tryz.prog 122 false := ⟨_, Tryz.underlying122, rfl⟩
instance : TyN Tryz.prog 122 1 8 (.nilFunc) := tyn_of (by kernel_rfl)
instance : TyA Tryz.prog 123 false := ⟨_, Tryz.underlying123, rfl⟩
instance : TyN Tryz.prog 123 1 8 (.nilFunc) := tyn_of (by kernel_rfl)
instance : TyD Tryz.prog 124 (.int .u64) := ⟨Tryz.underlying124⟩
instance : TyA Tryz.prog 124 false := ⟨_, Tryz.underlying124, rfl⟩
instance : TyN Tryz.prog 124 1 8 (.int .u64 0) := tyn_of (by kernel_rfl)
instance : TyA Tryz.prog 125 true := ⟨_, Tryz.underlying125, rfl⟩
instance : TyN Tryz.prog 125 3 40 (.agg #[.int .i64 0, .int .i64 0, .slice none 0 0]) := tyn_of (by kernel_rfl)
instance : TyF Tryz.prog 125 0 0 3 := ⟨_, _, Tryz.underlying125, rfl, rfl, rfl⟩
instance : TyF Tryz.prog 125 1 1 3 := ⟨_, _, Tryz.underlying125, rfl, rfl, rfl⟩
instance : TyF Tryz.prog 125 2 2 39 := ⟨_, _, Tryz.underlying125, rfl, rfl, rfl⟩
instance : TyB Tryz.prog 125 [(0, 1), (1, 1), (2, 1)] := ⟨_, Tryz.underlying125, fun w => by kernel_rfl⟩
instance : TyA Tryz.prog 126 true := ⟨_, Tryz.underlying126, rfl⟩
instance : TyN Tryz.prog 126 3 40 (.agg #[.int .i64 0, .int .i64 0, .slice none 0 0]) := tyn_of (by kernel_rfl)
instance : TyF Tryz.prog 126 0 0 3 := ⟨_, _, Tryz.underlying126, rfl, rfl, rfl⟩
instance : TyF Tryz.prog 126 1 1 3 := ⟨_, _, Tryz.underlying126, rfl, rfl, rfl⟩
instance : TyF Tryz.prog 126 2 2 39 := ⟨_, _, Tryz.underlying126, rfl, rfl, rfl⟩
instance : TyB Tryz.prog 126 [(0, 1), (1, 1), (2, 1)] := ⟨_, Tryz.underlying126, fun w => by kernel_rfl⟩
instance : TyD Tryz.prog 127 (.slice 47) := ⟨Tryz.underlying127⟩
instance : TyA Tryz.prog 127 false := ⟨_, Tryz.underlying127, rfl⟩
instance : TyN Tryz.prog 127 1 24 (.slice none 0 0) := tyn_of (by kernel_rfl)
instance : TyA Tryz.prog 128 true := ⟨_, Tryz.underlying128, rfl⟩
instance : TyN Tryz.prog 128 5 48 (.agg #[.int .u32 0, .int .u32 0, .int .u32 0, .int .i64 0, .slice none 0 0]) := tyn_of (by kernel_rfl)
instance : TyF Tryz.prog 128 0 0 25 := ⟨_, _, Tryz.underlying128, rfl, rfl, rfl⟩
instance : TyF Tryz.prog 128 1 1 25 := ⟨_, _, Tryz.underlying128, rfl, rfl, rfl⟩
instance : TyF Tryz.prog 128 2 2 22 := ⟨_, _, Tryz.underlying128, rfl, rfl, rfl⟩
instance : TyF Tryz.prog 128 3 3 3 := ⟨_, _, Tryz.underlying128, rfl, rfl, rfl⟩
instance : TyF Tryz.prog 128 4 4 61 := ⟨_, _, Tryz.underlying128, rfl, rfl, rfl⟩
instance : TyB Tryz.prog 128 [(0, 1), (1, 1), (2, 1), (3, 1), (4, 1)] := ⟨_, Tryz.underlying128, fun w => by kernel_rfl⟩
instance : TyA Tryz.prog 129 true := ⟨_, Tryz.underlying129, rfl⟩
instance : TyN Tryz.prog 129 5 48 (.agg #[.int .u32 0, .int .u32 0, .int .u32 0, .int .i64 0, .slice none 0 0]) := tyn_of (by kernel_rfl)
instance : TyF Tryz.prog 129 0 0 25 := ⟨_, _, Tryz.underlying129, rfl, rfl, rfl⟩
instance : TyF Tryz.prog 129 1 1 25 := ⟨_, _, Tryz.underlying129, rfl, rfl, rfl⟩
instance : TyF Tryz.prog 129 2 2 22 := ⟨_, _, Tryz.underlying129, rfl, rfl, rfl⟩
instance : TyF Tryz.prog 129 3 3 3 := ⟨_, _, Tryz.underlying129, rfl, rfl, rfl⟩
instance : TyF Tryz.prog 129 4 4 61 := ⟨_, _, Tryz.underlying129, rfl, rfl, rfl⟩
instance : TyB Tryz.prog 129 [(0, 1), (1, 1), (2, 1), (3, 1), (4, 1)] := ⟨_, Tryz.underlying129, fun w => by kernel_rfl⟩
instance : TyA Tryz.prog 131 false := ⟨_, Tryz.underlying131, rfl⟩
instance : TyN Tryz.prog 131 1 8 (.nilFunc) := tyn_of (by kernel_rfl)
instance : TyA Tryz.prog 132 false := ⟨_, Tryz.underlying132, rfl⟩
instance : TyN Tryz.prog 132 1 8 (.nilFunc) := tyn_of (by kernel_rfl)
instance : TyA Tryz.prog 133 false := ⟨_, Tryz.underlying133, rfl⟩
instance : TyN Tryz.prog 133 1 8 (.nilFunc) := tyn_of (by kernel_rfl)
instance : TyD Tryz.prog 134 (.int .u64) := ⟨Tryz.underlying134⟩
instance : TyA Tryz.prog 134 false := ⟨_, Tryz.underlying134, rfl⟩
instance : TyN Tryz.prog 134 1 8 (.int .u64 0) := tyn_of (by kernel_rfl)
instance : TyA Tryz.prog 135 false := ⟨_, Tryz.underlying135, rfl⟩
instance : TyN Tryz.prog 135 1 8 (.nilFunc) := tyn_of (by kernel_rfl)
instance : TyA Tryz.prog 136 false := ⟨_, Tryz.underlying136, rfl⟩
instance : TyN Tryz.prog 136 1 8 (.nilFunc) := tyn_of (by kernel_rfl)
instance : TyA Tryz.prog 137 false := ⟨_, Tryz.underlying137, rfl⟩
instance : TyN Tryz.prog 137 1 8 (.nilFunc) := tyn_of (by kernel_rfl)
instance : TyA Tryz.prog 138 false := ⟨_, Tryz.underlying138, rfl⟩
instance : TyN Tryz.prog 138 1 8 (.nilFunc) := tyn_of (by kernel_rfl)
instance : TyA Tryz.prog 139 false := ⟨_, Tryz.underlying139, rfl⟩
instance : TyN Tryz.prog 139 1 8 (.nilFunc) := tyn_of (by kernel_rfl)
instance : TyA Tryz.prog 140 false := ⟨_, Tryz.underlying140, rfl⟩
instance : TyN Tryz.prog 140 1 8 (.nilFunc) := tyn_of (by kernel_rfl)
instance : TyA Tryz.prog 141 false := ⟨_, Tryz.underlying141, rfl⟩
instance : TyN Tryz.prog 141 1 8 (.nilFunc) := tyn_of (by kernel_rfl)
instance : TyA Tryz.prog 142 false := ⟨_, Tryz.underlying142, rfl⟩
instance : TyN Tryz.prog 142 1 8 (.nilFunc) := tyn_of (by kernel_rfl)
instance : TyA Tryz.prog 144 false := ⟨_, Tryz.underlying144, rfl⟩
instance : TyN Tryz.prog 144 1 8 (.nilFunc) := tyn_of (by kernel_rfl)
instance : TyA Tryz.prog 145 false := ⟨_, Tryz.underlying145, rfl⟩
instance : TyN Tryz.prog 145 1 8 (.nilFunc) := tyn_of (by kernel_rfl)
instance : TyA Tryz.prog 147 false := ⟨_, Tryz.underlying147, rfl⟩
instance : TyN Tryz.prog 147 1 8 (.nilFunc) := tyn_of (by kernel_rfl)
instance : TyA Tryz.prog 149 false := ⟨_, Tryz.underlying149, rfl⟩
instance : TyN Tryz.prog 149 1 8 (.nilFunc) := tyn_of (by kernel_rfl)
instance : TyA Tryz.prog 150 false := ⟨_, Tryz.underlying150, rfl⟩
instance : TyN Tryz.prog 150 1 8 (.nilFunc) := tyn_of (by kernel_rfl)
instance : TyA Tryz.prog 151 false := ⟨_, Tryz.underlying151, rfl⟩
instance : TyN Tryz.prog 151 1 8 (.nilFunc) := tyn_of (by kernel_rfl)
instance : TyA Tryz.prog 152 false := ⟨_, Tryz.underlying152, rfl⟩
instance : TyN Tryz.prog 152 1 8 (.nilFunc) := tyn_of (by kernel_rfl)
instance : TyA Tryz.prog 153 false := ⟨_, Tryz.underlying153, rfl⟩
instance : TyN Tryz.prog 153 1 8 (.nilFunc) := tyn_of (by kernel_rfl)
instance : TyA Tryz.prog 155 false := ⟨_, Tryz.underlying155, rfl⟩
instance : TyN Tryz.prog 155 1 8 (.nilFunc) := tyn_of (by kernel_rfl)
instance : TyA Tryz.prog 156 false := ⟨_, Tryz.underlying156, rfl⟩
instance : TyN Tryz.prog 156 1 8 (.nilFunc) := tyn_of (by kernel_rfl)
instance : TyA Tryz.prog 157 false := ⟨_, Tryz.underlying157, rfl⟩
instance : TyN Tryz.prog 157 1 8 (.nilFunc) := tyn_of (by kernel_rfl)
instance : TyA Tryz.prog 158 false := ⟨_, Tryz.underlying158, rfl⟩
instance : TyN Tryz.prog 158 1 8 (.nilFunc) := tyn_of (by kernel_rfl)
instance : TyA Tryz.prog 159 false := ⟨_, Tryz.underlying159, rfl⟩
instance : TyN Tryz.prog 159 1 8 (.nilFunc) := tyn_of (by kernel_rfl)
instance : TyA Tryz.prog 160 false := ⟨_, Tryz.underlying160, rfl⟩
instance : TyN Tryz.prog 160 1 8 (.nilFunc) := tyn_of (by kernel_rfl)
instance : TyA Tryz.prog 161 false := ⟨_, Tryz.underlying161, rfl⟩
instance : TyN Tryz.prog 161 1 8 (.nilFunc) := tyn_of (by kernel_rfl)
instance : TyA Tryz.prog 162 false := ⟨_, Tryz.underlying162, rfl⟩
instance : TyN Tryz.prog 162 1 8 (.nilFunc) := tyn_of (by kernel_rfl)
instance : TyA Tryz.prog 163 true := ⟨_, Tryz.underlying163, rfl⟩
instance : TyN Tryz.prog 163 2 2 (.agg #[.int .u8 0, .int .u8 0]) := tyn_of (by kernel_rfl)
instance : TyF Tryz.prog 163 0 0 5 := ⟨_, _, Tryz.underlying163, rfl, rfl, rfl⟩
instance : TyF Tryz.prog 163 1 1 5 := ⟨_, _, Tryz.underlying163, rfl, rfl, rfl⟩
instance : EqS Tryz.prog 163 2 := ⟨by kernel_rfl, by kernel_rfl, by kernel_rfl, by kernel_rfl⟩
instance : TyB Tryz.prog 163 [(0, 1), (1, 1)] := ⟨_, Tryz.underlying163, fun w => by kernel_rfl⟩
instance : TyA Tryz.prog 164 true := ⟨_, Tryz.underlying164, rfl⟩
instance : TyN Tryz.prog 164 2 2 (.agg #[.int .u8 0, .int .u8 0]) := tyn_of (by kernel_rfl)
instance : TyF Tryz.prog 164 0 0 5 := ⟨_, _, Tryz.underlying164, rfl, rfl, rfl⟩
instance : TyF Tryz.prog 164 1 1 5 := ⟨_, _, Tryz.underlying164, rfl, rfl, rfl⟩
instance : EqS Tryz.prog 164 2 := ⟨by kernel_rfl, by kernel_rfl, by kernel_rfl, by kernel_rfl⟩
instance : TyB Tryz.prog 164 [(0, 1), (1, 1)] := ⟨_, Tryz.underlying164, fun w => by kernel_rfl⟩
instance : TyA Tryz.prog 165 false := ⟨_, Tryz.underlying165, rfl⟩
instance : TyN Tryz.prog 165 1 8 (.nilFunc) := tyn_of (by kernel_rfl)
instance : TyA Tryz.prog 166 false := ⟨_, Tryz.underlying166, rfl⟩
instance : TyN Tryz.prog 166 1 8 (.nilFunc) := tyn_of (by kernel_rfl)
instance : TyA Tryz.prog 167 false := ⟨_, Tryz.underlying167, rfl⟩
instance : TyN Tryz.prog 167 1 8 (.nilFunc) := tyn_of (by kernel_rfl)
instance : TyA Tryz.prog 168 false := ⟨_, Tryz.underlying168, rfl⟩
instance : TyN Tryz.prog 168 1 8 (.nilFunc) := tyn_of (by kernel_rfl)
instance : TyA Tryz.prog 170 false := ⟨_, Tryz.underlying170, rfl⟩
instance : TyN Tryz.prog 170 1 8 (.nilFunc) := tyn_of (by kernel_rfl)
instance : TyA Tryz.prog 171 false := ⟨_, Tryz.underlying171, rfl⟩
instance : TyN Tryz.prog 171 1 8 (.nilFunc) := tyn_of (by kernel_rfl)
instance : TyA Tryz.prog 172 false := ⟨_, Tryz.underlying172, rfl⟩
instance : TyN Tryz.prog 172 1 8 (.nilFunc) := tyn_of (by kernel_rfl)
instance : TyA Tryz.prog 173 false := ⟨_, Tryz.underlying173, rfl⟩
instance : TyN Tryz.prog 173 1 8 (.nilFunc) := tyn_of (by kernel_rfl)
instance : TyA Tryz.prog 174 false := ⟨_, Tryz.underlying174, rfl⟩
instance : TyN Tryz.prog 174 1 8 (.nilFunc) := tyn_of (by kernel_rfl)
instance : TyA Tryz.prog 175 false := ⟨_, Tryz.underlying175, rfl⟩
instance : TyN Tryz.prog 175 1 8 (.nilFunc) := tyn_of (by kernel_rfl)
instance : TyA Tryz.prog 176 false := ⟨_, Tryz.underlying176, rfl⟩
instance : TyN Tryz.prog 176 1 8 (.nilFunc) := tyn_of (by kernel_rfl)
instance : TyA Tryz.prog 177 false := ⟨_, Tryz.underlying177, rfl⟩
instance : TyN Tryz.prog 177 1 8 (.nilFunc) := tyn_of (by kernel_rfl)
instance : TyA Tryz.prog 178 false := ⟨_, Tryz.underlying178, rfl⟩
instance : TyN Tryz.prog 178 1 8 (.nilFunc) := tyn_of (by kernel_rfl)
instance : TyA Tryz.prog 180 false := ⟨_, Tryz.underlying180, rfl⟩
instance : TyN Tryz.prog 180 1 8 (.nilFunc) := tyn_of (by kernel_rfl)
instance : TyA Tryz.prog 181 false := ⟨_, Tryz.underlying181, rfl⟩
instance : TyN Tryz.prog 181 1 8 (.nilFunc) := tyn_of (by kernel_rfl)
instance : TyA Tryz.prog 182 false := ⟨_, Tryz.underlying182, rfl⟩
instance : TyN Tryz.prog 182 1 8 (.nilFunc) := tyn_of (by kernel_rfl)
instance : TyA Tryz.prog 183 false := ⟨_, Tryz.underlying183, rfl⟩
instance : TyN Tryz.prog 183 1 8 (.nilFunc) := tyn_of (by kernel_rfl)
instance : TyA Tryz.prog 184 false := ⟨_, Tryz.underlying184, rfl⟩
instance : TyN Tryz.prog 184 1 8 (.nilFunc) := tyn_of (by kernel_rfl)
instance : TyA Tryz.prog 185 false := ⟨_, Tryz.underlying185, rfl⟩
instance : TyN Tryz.prog 185 1 8 (.nilFunc) := tyn_of (by kernel_rfl)
instance : TyA Tryz.prog 186 false := ⟨_, Tryz.underlying186, rfl⟩
instance : TyN Tryz.prog 186 1 8 (.nilFunc) := tyn_of (by kernel_rfl)
instance : TyD Tryz.prog 187 (.int .i64) := ⟨Tryz.underlying187⟩
instance : TyA Tryz.prog 187 false := ⟨_, Tryz.underlying187, rfl⟩
instance : TyN Tryz.prog 187 1 8 (.int .i64 0) := tyn_of (by kernel_rfl)
instance : TyA Tryz.prog 189 false := ⟨_, Tryz.underlying189, rfl⟩
instance : TyN Tryz.prog 189 1 8 (.nilFunc) := tyn_of (by kernel_rfl)
instance : TyA Tryz.prog 190 false := ⟨_, Tryz.underlying190, rfl⟩
instance : TyN Tryz.prog 190 1 8 (.nilFunc) := tyn_of (by kernel_rfl)
instance : TyA Tryz.prog 191 false := ⟨_, Tryz.underlying191, rfl⟩
instance : TyN Tryz.prog 191 1 8 (.nilFunc) := tyn_of (by kernel_rfl)
instance : TyA Tryz.prog 192 false := ⟨_, Tryz.underlying192, rfl⟩
instance : TyN Tryz.prog 192 1 8 (.nilFunc) := tyn_of (by kernel_rfl)
instance : TyA Tryz.prog 193 false := ⟨_, Tryz.underlying193, rfl⟩
instance : TyN Tryz.prog 193 1 8 (.nilFunc) := tyn_of (by kernel_rfl)
instance : TyA Tryz.prog 194 false := ⟨_, Tryz.underlying194, rfl⟩
instance : TyN Tryz.prog 194 1 8 (.nilFunc) := tyn_of (by kernel_rfl)
instance : TyA Tryz.prog 195 false := ⟨_, Tryz.underlying195, rfl⟩
instance : TyN Tryz.prog 195 1 8 (.nilFunc) := tyn_of (by kernel_rfl)
instance : TyA Tryz.prog 196 false := ⟨_, Tryz.underlying196, rfl⟩
instance : TyN Tryz.prog 196 1 8 (.nilFunc) := tyn_of (by kernel_rfl)
instance : TyA Tryz.prog 197 false := ⟨_, Tryz.underlying197, rfl⟩
instance : TyN Tryz.prog 197 1 8 (.nilFunc) := tyn_of (by kernel_rfl)
instance : TyD Tryz.prog 198 (.slice 81) := ⟨Tryz.underlying198⟩
instance : TyA Tryz.prog 198 false := ⟨_, Tryz.underlying198, rfl⟩
instance : TyN Tryz.prog 198 1 24 (.slice none 0 0) := tyn_of (by kernel_rfl)
instance : TyA Tryz.prog 199 false := ⟨_, Tryz.underlying199, rfl⟩
instance : TyN Tryz.prog 199 1 8 (.nilFunc) := tyn_of (by kernel_rfl)
instance : TyD Tryz.prog 200 (.slice 39) := ⟨Tryz.underlying200⟩
instance : TyA Tryz.prog 200 false := ⟨_, Tryz.underlying200, rfl⟩
instance : TyN Tryz.prog 200 1 24 (.slice none 0 0) := tyn_of (by kernel_rfl)
instance : TyA Tryz.prog 201 false := ⟨_, Tryz.underlying201, rfl⟩
instance : TyN Tryz.prog 201 1 8 (.nilFunc) := tyn_of (by kernel_rfl)
instance : TyA Tryz.prog 202 false := ⟨_, Tryz.underlying202, rfl⟩
instance : TyN Tryz.prog 202 1 8 (.nilFunc) := tyn_of (by kernel_rfl)
instance : TyA Tryz.prog 203 false := ⟨_, Tryz.underlying203, rfl⟩
instance : TyN Tryz.prog 203 1 8 (.nilFunc) := tyn_of (by kernel_rfl)
instance : TyD Tryz.prog 204 (.int .u64) := ⟨Tryz.underlying204⟩
instance : TyA Tryz.prog 204 false := ⟨_, Tryz.underlying204, rfl⟩
instance : TyN Tryz.prog 204 1 8 (.int .u64 0) := tyn_of (by kernel_rfl)
instance : TyA Tryz.prog 205 false := ⟨_, Tryz.underlying205, rfl⟩
instance : TyN Tryz.prog 205 1 8 (.nilFunc) := tyn_of (by kernel_rfl)
instance : TyA Tryz.prog 206 false := ⟨_, Tryz.underlying206, rfl⟩
instance : TyN Tryz.prog 206 1 8 (.nilFunc) := tyn_of (by kernel_rfl)
instance : TyA Tryz.prog 207 false := ⟨_, Tryz.underlying207, rfl⟩
instance : TyN Tryz.prog 207 1 8 (.nilFunc) := tyn_of (by kernel_rfl)
instance : TyD Tryz.prog 208 (.pointer 3) := ⟨Tryz.underlying208⟩
instance : TyA Tryz.prog 208 false := ⟨_, Tryz.underlying208, rfl⟩
instance : TyN Tryz.prog 208 1 8 (.pointer none) := tyn_of (by kernel_rfl)
instance : TyA Tryz.prog 209 false := ⟨_, Tryz.underlying209, rfl⟩
instance : TyN Tryz.prog 209 1 8 (.nilFunc) := tyn_of (by kernel_rfl)
instance : TyA Tryz.prog 210 false := ⟨_, Tryz.underlying210, rfl⟩
instance : TyN Tryz.prog 210 1 8 (.nilFunc) := tyn_of (by kernel_rfl)
instance : TyA Tryz.prog 211 false := ⟨_, Tryz.underlying211, rfl⟩
instance : TyN Tryz.prog 211 1 8 (.nilFunc) := tyn_of (by kernel_rfl)
instance : TyA Tryz.prog 212 false := ⟨_, Tryz.underlying212, rfl⟩
instance : TyN Tryz.prog 212 1 8 (.nilFunc) := tyn_of (by kernel_rfl)
instance : TyA Tryz.prog 213 false := ⟨_, Tryz.underlying213, rfl⟩
instance : TyN Tryz.prog 213 1 8 (.nilFunc) := tyn_of (by kernel_rfl)
instance : TyA Tryz.prog 214 false := ⟨_, Tryz.underlying214, rfl⟩
instance : TyN Tryz.prog 214 1 8 (.nilFunc) := tyn_of (by kernel_rfl)
instance : TyA Tryz.prog 215 false := ⟨_, Tryz.underlying215, rfl⟩
instance : TyN Tryz.prog 215 1 8 (.nilFunc) := tyn_of (by kernel_rfl)
instance : TyA Tryz.prog 216 false := ⟨_, Tryz.underlying216, rfl⟩
instance : TyN Tryz.prog 216 1 8 (.nilFunc) := tyn_of (by kernel_rfl)
instance : TyA Tryz.prog 217 false := ⟨_, Tryz.underlying217, rfl⟩
instance : TyN Tryz.prog 217 1 8 (.nilFunc) := tyn_of (by kernel_rfl)
instance : TyA Tryz.prog 218 false := ⟨_, Tryz.underlying218, rfl⟩
instance : TyN Tryz.prog 218 1 8 (.nilFunc) := tyn_of (by kernel_rfl)
instance : TyD Tryz.prog 219 (.pointer 204) := ⟨Tryz.underlying219⟩
instance : TyA Tryz.prog 219 false := ⟨_, Tryz.underlying219, rfl⟩
instance : TyN Tryz.prog 219 1 8 (.pointer none) := tyn_of (by kernel_rfl)
instance : TyA Tryz.prog 221 false := ⟨_, Tryz.underlying221, rfl⟩
instance : TyN Tryz.prog 221 1 8 (.nilFunc) := tyn_of (by kernel_rfl)
instance : TyA Tryz.prog 222 false := ⟨_, Tryz.underlying222, rfl⟩
instance : TyN Tryz.prog 222 1 8 (.nilFunc) := tyn_of (by kernel_rfl)
instance : TyA Tryz.prog 223 false := ⟨_, Tryz.underlying223, rfl⟩
instance : TyN Tryz.prog 223 1 8 (.nilFunc) := tyn_of (by kernel_rfl)
instance : TyA Tryz.prog 229 false := ⟨_, Tryz.underlying229, rfl⟩
instance : TyN Tryz.prog 229 1 8 (.nilFunc) := tyn_of (by kernel_rfl)
instance : TyA Tryz.prog 232 false := ⟨_, Tryz.underlying232, rfl⟩
instance : TyN Tryz.prog 232 1 8 (.nilFunc) := tyn_of (by kernel_rfl)
instance : TyD Tryz.prog 233 (.pointer 5) := ⟨Tryz.underlying233⟩
instance : TyA Tryz.prog 233 false := ⟨_, Tryz.underlying233, rfl⟩
instance : TyN Tryz.prog 233 1 8 (.pointer none) := tyn_of (by kernel_rfl)
instance : FnB Tryz.prog 2 := ⟨_, Tryz.func2, by decide +kernel, rfl⟩
instance : FnB Tryz.prog 3 := ⟨_, Tryz.func3, by decide +kernel, rfl⟩
instance : FnB Tryz.prog 4 := ⟨_, Tryz.func4, by decide +kernel, rfl⟩
instance : FnB Tryz.prog 5 := ⟨_, Tryz.func5, by decide +kernel, rfl⟩
instance : FnB Tryz.prog 6 := ⟨_, Tryz.func6, by decide +kernel, rfl⟩
instance : FnB Tryz.prog 7 := ⟨_, Tryz.func7, by decide +kernel, rfl⟩
instance : FnB Tryz.prog 8 := ⟨_, Tryz.func8, by decide +kernel, rfl⟩
instance : FnB Tryz.prog 9 := ⟨_, Tryz.func9, by decide +kernel, rfl⟩
instance : FnB Tryz.prog 10 := ⟨_, Tryz.func10, by decide +kernel, rfl⟩
instance : FnB Tryz.prog 11 := ⟨_, Tryz.func11, by decide +kernel, rfl⟩
instance : FnB Tryz.prog 12 := ⟨_, Tryz.func12, by decide +kernel, rfl⟩
instance : FnB Tryz.prog 13 := ⟨_, Tryz.func13, by decide +kernel, rfl⟩
instance : FnB Tryz.prog 14 := ⟨_, Tryz.func14, by decide +kernel, rfl⟩
instance : FnB Tryz.prog 15 := ⟨_, Tryz.func15, by decide +kernel, rfl⟩
instance : FnB Tryz.prog 16 := ⟨_, Tryz.func16, by decide +kernel, rfl⟩
instance : FnB Tryz.prog 17 := ⟨_, Tryz.func17, by decide +kernel, rfl⟩
instance : FnB Tryz.prog 18 := ⟨_, Tryz.func18, by decide +kernel, rfl⟩
instance : FnB Tryz.prog 19 := ⟨_, Tryz.func19, by decide +kernel, rfl⟩
instance : FnB Tryz.prog 20 := ⟨_, Tryz.func20, by decide +kernel, rfl⟩
instance : FnB Tryz.prog 21 := ⟨_, Tryz.func21, by decide +kernel, rfl⟩
instance : FnB Tryz.prog 22 := ⟨_, Tryz.func22, by decide +kernel, rfl⟩
instance : FnB Tryz.prog 23 := ⟨_, Tryz.func23, by decide +kernel, rfl⟩
instance : FnB Tryz.prog 24 := ⟨_, Tryz.func24, by decide +kernel, rfl⟩
instance : FnB Tryz.prog 25 := ⟨_, Tryz.func25, by decide +kernel, rfl⟩
instance : FnB Tryz.prog 26 := ⟨_, Tryz.func26, by decide +kernel, rfl⟩
instance : FnB Tryz.prog 27 := ⟨_, Tryz.func27, by decide +kernel, rfl⟩
instance : FnB Tryz.prog 28 := ⟨_, Tryz.func28, by decide +kernel, rfl⟩
instance : FnB Tryz.prog 29 := ⟨_, Tryz.func29, by decide +kernel, rfl⟩
instance : FnB Tryz.prog 30 := ⟨_, Tryz.func30, by decide +kernel, rfl⟩
instance : FnB Tryz.prog 31 := ⟨_, Tryz.func31, by decide +kernel, rfl⟩
instance : FnB Tryz.prog 32 := ⟨_, Tryz.func32, by decide +kernel, rfl⟩
instance : FnB Tryz.prog 33 := ⟨_, Tryz.func33, by decide +kernel, rfl⟩
instance : FnB Tryz.prog 34 := ⟨_, Tryz.func34, by decide +kernel, rfl⟩
instance : FnB Tryz.prog 35 := ⟨_, Tryz.func35, by decide +kernel, rfl⟩
instance : FnB Tryz.prog 36 := ⟨_, Tryz.func36, by decide +kernel, rfl⟩
instance : FnB Tryz.prog 37 := ⟨_, Tryz.func37, by decide +kernel, rfl⟩
instance : FnB Tryz.prog 38 := ⟨_, Tryz.func38, by decide +kernel, rfl⟩
instance : FnB Tryz.prog 39 := ⟨_, Tryz.func39, by decide +kernel, rfl⟩
instance : FnB Tryz.prog 40 := ⟨_, Tryz.func40, by decide +kernel, rfl⟩
instance : FnB Tryz.prog 41 := ⟨_, Tryz.func41, by decide +kernel, rfl⟩
instance : FnB Tryz.prog 42 := ⟨_, Tryz.func42, by decide +kernel, rfl⟩
instance : FnB Tryz.prog 43 := ⟨_, Tryz.func43, by decide +kernel, rfl⟩
instance : FnB Tryz.prog 44 := ⟨_, Tryz.func44, by decide +kernel, rfl⟩
instance : FnB Tryz.prog 45 := ⟨_, Tryz.func45, by decide +kernel, rfl⟩
instance : FnB Tryz.prog 46 := ⟨_, Tryz.func46, by decide +kernel, rfl⟩
instance : FnB Tryz.prog 47 := ⟨_, Tryz.func47, by decide +kernel, rfl⟩
instance : FnB Tryz.prog 48 := ⟨_, Tryz.func48, by decide +kernel, rfl⟩
instance : FnB Tryz.prog 49 := ⟨_, Tryz.func49, by decide +kernel, rfl⟩
instance : FnB Tryz.prog 50 := ⟨_, Tryz.func50, by decide +kernel, rfl⟩
instance : FnB Tryz.prog 51 := ⟨_, Tryz.func51, by decide +kernel, rfl⟩
instance : FnB Tryz.prog 52 := ⟨_, Tryz.func52, by decide +kernel, rfl⟩
instance : FnB Tryz.prog 53 := ⟨_, Tryz.func53, by decide +kernel, rfl⟩
instance : FnB Tryz.prog 54 := ⟨_, Tryz.func54, by decide +kernel, rfl⟩
instance : FnB Tryz.prog 55 := ⟨_, Tryz.func55, by decide +kernel, rfl⟩
instance : FnB Tryz.prog 56 := ⟨_, Tryz.func56, by decide +kernel, rfl⟩
instance : FnB Tryz.prog 57 := ⟨_, Tryz.func57, by decide +kernel, rfl⟩
instance : FnB Tryz.prog 58 := ⟨_, Tryz.func58, by decide +kernel, rfl⟩
instance : FnB Tryz.prog 59 := ⟨_, Tryz.func59, by decide +kernel, rfl⟩
instance : FnB Tryz.prog 60 := ⟨_, Tryz.func60, by decide +kernel, rfl⟩
instance : FnB Tryz.prog 61 := ⟨_, Tryz.func61, by decide +kernel, rfl⟩
instance : FnB Tryz.prog 62 := ⟨_, Tryz.func62, by decide +kernel, rfl⟩
instance : FnB Tryz.prog 63 := ⟨_, Tryz.func63, by decide +kernel, rfl⟩
instance : FnB Tryz.prog 64 := ⟨_, Tryz.func64, by decide +kernel, rfl⟩
instance : FnB Tryz.prog 65 := ⟨_, Tryz.func65, by decide +kernel, rfl⟩
instance : FnB Tryz.prog 66 := ⟨_, Tryz.func66, by decide +kernel, rfl⟩
instance : FnB Tryz.prog 67 := ⟨_, Tryz.func67, by decide +kernel, rfl⟩
instance : FnB Tryz.prog 68 := ⟨_, Tryz.func68, by decide +kernel, rfl⟩
instance : FnB Tryz.prog 69 := ⟨_, Tryz.func69, by decide +kernel, rfl⟩
instance : FnB Tryz.prog 70 := ⟨_, Tryz.func70, by decide +kernel, rfl⟩
instance : FnB Tryz.prog 71 := ⟨_, Tryz.func71, by decide +kernel, rfl⟩
instance : FnB Tryz.prog 72 := ⟨_, Tryz.func72, by decide +kernel, rfl⟩
instance : FnB Tryz.prog 73 := ⟨_, Tryz.func73, by decide +kernel, rfl⟩
instance : FnB Tryz.prog 74 := ⟨_, Tryz.func74, by decide +kernel, rfl⟩
instance : FnB Tryz.prog 75 := ⟨_, Tryz.func75, by decide +kernel, rfl⟩
instance : FnB Tryz.prog 76 := ⟨_, Tryz.func76, by decide +kernel, rfl⟩
instance : FnB Tryz.prog 77 := ⟨_, Tryz.func77, by decide +kernel, rfl⟩
instance : FnB Tryz.prog 78 := ⟨_, Tryz.func78, by decide +kernel, rfl⟩
instance : FnB Tryz.prog 79 := ⟨_, Tryz.func79, by decide +kernel, rfl⟩
instance : FnB Tryz.prog 80 := ⟨_, Tryz.func80, by decide +kernel, rfl⟩
instance : FnB Tryz.prog 81 := ⟨_, Tryz.func81, by decide +kernel, rfl⟩
instance : FnB Tryz.prog 82 := ⟨_, Tryz.func82, by decide +kernel, rfl⟩
instance : FnB Tryz.prog 83 := ⟨_, Tryz.func83, by decide +kernel, rfl⟩
instance : FnB Tryz.prog 84 := ⟨_, Tryz.func84, by decide +kernel, rfl⟩
instance : FnB Tryz.prog 85 := ⟨_, Tryz.func85, by decide +kernel, rfl⟩
instance : FnB Tryz.prog 86 := ⟨_, Tryz.func86, by decide +kernel, rfl⟩
instance : FnB Tryz.prog 87 := ⟨_, Tryz.func87, by decide +kernel, rfl⟩
instance : FnB Tryz.prog 88 := ⟨_, Tryz.func88, by decide +kernel, rfl⟩
instance : FnB Tryz.prog 89 := ⟨_, Tryz.func89, by decide +kernel, rfl⟩
instance : FnB Tryz.prog 90 := ⟨_, Tryz.func90, by decide +kernel, rfl⟩
instance : FnB Tryz.prog 91 := ⟨_, Tryz.func91, by decide +kernel, rfl⟩
instance : FnB Tryz.prog 92 := ⟨_, Tryz.func92, by decide +kernel, rfl⟩
instance : FnB Tryz.prog 93 := ⟨_, Tryz.func93, by decide +kernel, rfl⟩
instance : FnB Tryz.prog 94 := ⟨_, Tryz.func94, by decide +kernel, rfl⟩
instance : FnB Tryz.prog 95 := ⟨_, Tryz.func95, by decide +kernel, rfl⟩
instance : FnB Tryz.prog 96 := ⟨_, Tryz.func96, by decide +kernel, rfl⟩
instance : FnB Tryz.prog 97 := ⟨_, Tryz.func97, by decide +kernel, rfl⟩
instance : FnB Tryz.prog 98 := ⟨_, Tryz.func98, by decide +kernel, rfl⟩
instance : FnB Tryz.prog 99 := ⟨_, Tryz.func99, by decide +kernel, rfl⟩
instance : FnB Tryz.prog 100 := ⟨_, Tryz.func100, by decide +kernel, rfl⟩
instance : FnB Tryz.prog 101 := ⟨_, Tryz.func101, by decide +kernel, rfl⟩
instance : FnB Tryz.prog 103 := ⟨_, Tryz.func103, by decide +kernel, rfl⟩
instance : FnB Tryz.prog 104 := ⟨_, Tryz.func104, by decide +kernel, rfl⟩
instance : FnB Tryz.prog 105 := ⟨_, Tryz.func105, by decide +kernel, rfl⟩
instance : FnB Tryz.prog 106 := ⟨_, Tryz.func106, by decide +kernel, rfl⟩
instance : FnB Tryz.prog 107 := ⟨_, Tryz.func107, by decide +kernel, rfl⟩
instance : FnB Tryz.prog 108 := ⟨_, Tryz.func108, by decide +kernel, rfl⟩
instance : FnB Tryz.prog 109 := ⟨_, Tryz.func109, by decide +kernel, rfl⟩
instance : FnB Tryz.prog 110 := ⟨_, Tryz.func110, by decide +kernel, rfl⟩
instance : FnB Tryz.prog 111 := ⟨_, Tryz.func111, by decide +kernel, rfl⟩
instance : FnB Tryz.prog 112 := ⟨_, Tryz.func112, by decide +kernel, rfl⟩
instance : FnB Tryz.prog 113 := ⟨_, Tryz.func113, by decide +kernel, rfl⟩
instance : FnB Tryz.prog 114 := ⟨_, Tryz.func114, by decide +kernel, rfl⟩
instance : FnB Tryz.prog 115 := ⟨_, Tryz.func115, by decide +kernel, rfl⟩
instance : FnB Tryz.prog 116 := ⟨_, Tryz.func116, by decide +kernel, rfl⟩
instance : FnB Tryz.prog 117 := ⟨_, Tryz.func117, by decide +kernel, rfl⟩
instance : FnB Tryz.prog 118 := ⟨_, Tryz.func118, by decide +kernel, rfl⟩
instance : FnB Tryz.prog 119 := ⟨_, Tryz.func119, by decide +kernel, rfl⟩
instance : FnB Tryz.prog 120 := ⟨_, Tryz.func120, by decide +kernel, rfl⟩
instance : FnB Tryz.prog 121 := ⟨_, Tryz.func121, by decide +kernel, rfl⟩
instance : FnB Tryz.prog 122 := ⟨_, Tryz.func122, by decide +kernel, rfl⟩
instance : FnB Tryz.prog 123 := ⟨_, Tryz.func123, by decide +kernel, rfl⟩
instance : FnB Tryz.prog 124 := ⟨_, Tryz.func124, by decide +kernel, rfl⟩
instance : FnB Tryz.prog 125 := ⟨_, Tryz.func125, by decide +kernel, rfl⟩
instance : FnB Tryz.prog 126 := ⟨_, Tryz.func126, by decide +kernel, rfl⟩
instance : FnB Tryz.prog 127 := ⟨_, Tryz.func127, by decide +kernel, rfl⟩
instance : FnB Tryz.prog 128 := ⟨_, Tryz.func128, by decide +kernel, rfl⟩
instance : FnB Tryz.prog 129 := ⟨_, Tryz.func129, by decide +kernel, rfl⟩
instance : FnB Tryz.prog 130 := ⟨_, Tryz.func130, by decide +kernel, rfl⟩
instance : FnB Tryz.prog 131 := ⟨_, Tryz.func131, by decide +kernel, rfl⟩
instance : FnB Tryz.prog 132 := ⟨_, Tryz.func132, by decide +kernel, rfl⟩
instance : FnB Tryz.prog 133 := ⟨_, Tryz.func133, by decide +kernel, rfl⟩
instance : FnB Tryz.prog 134 := ⟨_, Tryz.func134, by decide +kernel, rfl⟩
instance : FnB Tryz.prog 135 := ⟨_, Tryz.func135, by decide +kernel, rfl⟩
instance : FnB Tryz.prog 136 := ⟨_, Tryz.func136, by decide +kernel, rfl⟩
instance : FnB Tryz.prog 137 := ⟨_, Tryz.func137, by decide +kernel, rfl⟩
instance : FnB Tryz.prog 139 := ⟨_, Tryz.func139, by decide +kernel, rfl⟩
instance : FnB Tryz.prog 140 := ⟨_, Tryz.func140, by decide +kernel, rfl⟩
instance : FnB Tryz.prog 141 := ⟨_, Tryz.func141, by decide +kernel, rfl⟩
instance : FnB Tryz.prog 142 := ⟨_, Tryz.func142, by decide +kernel, rfl⟩
instance : FnB Tryz.prog 143 := ⟨_, Tryz.func143, by decide +kernel, rfl⟩
instance : FnB Tryz.prog 144 := ⟨_, Tryz.func144, by decide +kernel, rfl⟩
instance : FnB Tryz.prog 145 := ⟨_, Tryz.func145, by decide +kernel, rfl⟩
instance : FnB Tryz.prog 146 := ⟨_, Tryz.func146, by decide +kernel, rfl⟩
instance : FnB Tryz.prog 147 := ⟨_, Tryz.func147, by decide +kernel, rfl⟩
instance : FnB Tryz.prog 148 := ⟨_, Tryz.func148, by decide +kernel, rfl⟩
instance : FnB Tryz.prog 149 := ⟨_, Tryz.func149, by decide +kernel, rfl⟩
instance : FnB Tryz.prog 150 := ⟨_, Tryz.func150, by decide +kernel, rfl⟩
instance : FnB Tryz.prog 151 := ⟨_, Tryz.func151, by decide +kernel, rfl⟩
instance : FnB Tryz.prog 152 := ⟨_, Tryz.func152, by decide +kernel, rfl⟩
instance : FnB Tryz.prog 153 := ⟨_, Tryz.func153, by decide +kernel, rfl⟩
instance : FnB Tryz.prog 154 := ⟨_, Tryz.func154, by decide +kernel, rfl⟩
instance : FnB Tryz.prog 155 := ⟨_, Tryz.func155, by decide +kernel, rfl⟩
instance : FnB Tryz.prog 156 := ⟨_, Tryz.func156, by decide +kernel, rfl⟩
instance : FnB Tryz.prog 157 := ⟨_, Tryz.func157, by decide +kernel, rfl⟩
instance : FnB Tryz.prog 158 := ⟨_, Tryz.func158, by decide +kernel, rfl⟩
instance : FnB Tryz.prog 159 := ⟨_, Tryz.func159, by decide +kernel, rfl⟩
instance : FnB Tryz.prog 160 := ⟨_, Tryz.func160, by decide +kernel, rfl⟩
instance : FnB Tryz.prog 161 := ⟨_, Tryz.func161, by decide +kernel, rfl⟩
instance : FnOv Tryz.prog 102 31 := ⟨_, 4, Tryz.func102, by decide +kernel, rfl, by kernel_rfl, by kernel_rfl⟩
instance : FnOv Tryz.prog 138 30 := ⟨_, 4, Tryz.func138, by decide +kernel, rfl, by kernel_rfl, by kernel_rfl⟩
end Go.Proofs.YtkofbemgpeagbaaGreat
/- Plain facts on 32-bit prefixes. No program in sight. -/
namespace Go.Pl

def clampN (n : Int) : Nat := (min (max n 0) 32).toNat
theorem clampN_le (n : Int) : clampN n ≤ 32 := by unfold clampN; omega
theorem clampN_int (n : Int) : min (max n 0) 32 = (clampN n : Int) := by unfold clampN; omega
def keepN (x c : Nat) : Nat := x / 2 ^ (32 - c) * 2 ^ (32 - c)

theorem land_high (x k : Nat) (hk : k ≤ 32) (hx : x < 2 ^ 32) : x &&& (2 ^ 32 - 2 ^ k) = x / 2 ^ k * 2 ^ k := by
  apply Nat.eq_of_testBit_eq
  intro i
  have e : 2 ^ 32 - 2 ^ k = (2 ^ (32 - k) - 1) <<< k := by
    rw [Nat.shiftLeft_eq, Nat.sub_mul, ← Nat.pow_add, Nat.one_mul, Nat.sub_add_cancel hk]
  rw [Nat.testBit_and, e, Nat.testBit_shiftLeft, Nat.testBit_two_pow_sub_one, ← Nat.shiftRight_eq_div_pow, ← Nat.shiftLeft_eq, Nat.testBit_shiftLeft, Nat.testBit_shiftRight]
  by_cases h : k ≤ i
  · by_cases h2 : i < 32
    · have : i - k < 32 - k := by omega
      simp [h, this, show k + (i - k) = i by omega]
    · have hb : x.testBit i = false := Nat.testBit_lt_two_pow (Nat.lt_of_lt_of_le hx (Nat.pow_le_pow_right (by omega) (by omega)))
      simp [h, hb, show k + (i - k) = i by omega]
  · simp [h]
theorem keepN_le (x c : Nat) : keepN x c ≤ x := Nat.div_mul_le_self _ _
theorem mask_wrap (k : Nat) (hk : k ≤ 32) : (4294967295 * 2 ^ k) % 4294967296 = 4294967296 - 2 ^ k := by
  have h1 : 2 ^ k ≤ 2 ^ 32 := Nat.pow_le_pow_right (by omega) hk
  have h2 : 0 < 2 ^ k := Nat.two_pow_pos k
  have e : 4294967295 * 2 ^ k = (2 ^ k - 1) * 4294967296 + (4294967296 - 2 ^ k) := by
    have : (2 ^ k - 1) * 4294967296 = 2 ^ k * 4294967296 - 4294967296 := by rw [Nat.sub_mul, Nat.one_mul]
    omega
  rw [e, Nat.mul_comm, Nat.mul_add_mod]
  exact Nat.mod_eq_of_lt (by omega)
end Go.Pl
namespace Go.Pl
end Go.Pl
/- Prefixes and what the functions on one prefix compute. No program in sight. -/
namespace Go.Pl
open Go.RT
structure Pfx where
  addr : Nat
  len : Int
  deriving DecidableEq
def Pfx.ok (p : Pfx) : Prop := p.addr < 2 ^ 32 ∧ inr .i64 p.len
def encP (p : Pfx) : List FV := [If .u32 p.addr, If .i64 p.len]
def validB (p : Pfx) : Bool := decide (0 ≤ p.len) && decide (p.len ≤ 32) && decide ((keepN p.addr (clampN p.len) : Int) = p.addr)
theorem eqFs_encP (p q : Pfx) : eqFs (encP p) (encP q) = decide (p = q) := by
  obtain ⟨a, b⟩ := p; obtain ⟨c, d⟩ := q
  simp [eqFs, encP, If]
  by_cases h1 : a = c <;> by_cases h2 : b = d <;> simp [h1, h2] <;> omega
/-- the number of host bits -/
def hob (p : Pfx) : Nat := 32 - clampN p.len
def sz (p : Pfx) : Nat := 2 ^ hob p
end Go.Pl
/- Plain facts on runs of addresses. No program in sight. -/
namespace Go.Pl
open Go.RT
structure Spn where
  lo : Nat
  hi : Nat
  deriving DecidableEq
/-- ascending, disjoint, apart -/
def Canon (l : List Spn) : Prop := (∀ s ∈ l, s.lo < s.hi) ∧ l.Pairwise (fun a b => a.hi < b.lo)
theorem Canon.nil : Canon [] := ⟨by simp, by simp⟩

theorem Canon.push {l : List Spn} {s : Spn} (h : Canon l) (hs : s.lo < s.hi) (hl : ∀ o ∈ l, o.hi < s.lo) : Canon (l ++ [s]) := by
  refine ⟨fun o ho => ?_, ?_⟩
  · rcases List.mem_append.1 ho with h1 | h1
    · exact h.1 o h1
    · simp at h1; subst h1; exact hs
  · rw [List.pairwise_append]
    exact ⟨h.2, by simp, fun a ha b hb => by simp at hb; subst hb; exact hl a ha⟩
end Go.Pl
/- Lists of runs and lists of prefixes. No program in sight. -/
namespace Go.Pl
open Go.RT
/-! ## intersection and complement -/
def meetS (a b : List Spn) : List Spn := a.flatMap fun s => b.filterMap fun t => if max s.lo t.lo < min s.hi t.hi then some ⟨max s.lo t.lo, min s.hi t.hi⟩ else none
end Go.Pl
/- The blocks of a run. No program in sight. -/
namespace Go.Pl
open Go.RT
def blk (a k : Nat) : Pfx := ⟨a, 32 - (k : Int)⟩
/-- where the block twice as large begins -/
def pa (p : Pfx) : Nat := p.addr / (2 * sz p) * (2 * sz p)
open Go.RT
open Go.RT
end Go.Pl
namespace Go.Pl
@[simp] theorem meet_nil (a : List Spn) : meetS a [] = [] := by
  unfold meetS; induction a with
  | nil => rfl
  | cons s a ih => simp
@[simp] theorem meet_nil' (b : List Spn) : meetS [] b = [] := rfl
open Go.RT
open Go.RT
end Go.Pl
/- Graphs, their edges, and what the functions on them compute. No program in sight. -/
namespace Go.Pl
open Go.RT
set_option linter.all false
def cmpI (a b : Int) : Int := if a < b then -1 else if a > b then 1 else 0
instance (k : IntKind) (n : Int) : Decidable (inr k n) := by cases k <;> unfold inr <;> infer_instance
structure Edg where
 f : Int
 t : Int
 c : Int
 deriving DecidableEq
structure Gr where
 r : Int
 n : Int
 es : List Edg
 deriving DecidableEq
def encE (e : Edg) : List FV := [If .i64 e.f, If .i64 e.t, If .i64 e.c]
abbrev VE (l : List Edg) : FV := .vals 3 (l.map encE)
def encG (g : Gr) : List FV := [If .i64 g.r, If .i64 g.n, VE g.es]
def encN (x : Int) : List FV := [If .i64 x]
abbrev VI (l : List Int) : FV := .vals 1 (l.map encN)
def encB (x : Bool) : List FV := [Bf x]
def okE (e : Edg) : Prop := inr .i64 e.f ∧ inr .i64 e.t ∧ inr .i64 e.c
def okEs (l : List Edg) : Prop := ∀ e ∈ l, okE e
def okG (g : Gr) : Prop := inr .i64 g.r ∧ inr .i64 g.n ∧ okEs g.es
def befB (a b : Edg) : Bool := decide (a.f < b.f) || decide (a.f = b.f) && decide (a.t < b.t)
def szOk (g : Gr) : Prop := 0 ≤ g.r ∧ 0 ≤ g.n ∧ g.r + g.n ≤ 128
def sizeI (g : Gr) : Int := if g.r < 0 ∨ g.n < 0 then 5 else if g.r > 128 ∨ g.n > 128 ∨ g.r + g.n > 128 ∨ 1024 < g.es.length then 4 else 0
def nodeB (g : Gr) (x : Int) : Bool := decide (0 ≤ x) && decide (x < g.r + g.n)
def alwI (g : Gr) (e : Edg) : Int := if nodeB g e.f = false ∨ nodeB g e.t = false then 5 else
 if e.f = e.t ∨ (g.r ≤ e.f ∧ g.r ≤ e.t) ∨ (g.r ≤ e.f ∧ e.c ≠ 0) ∨ (e.f < g.r ∧ (e.c < 1 ∨ 65535 < e.c)) then 1 else 0
theorem sizeI_ok {g : Gr} (h : sizeI g = 0) : szOk g ∧ g.es.length ≤ 1024 := by
 unfold sizeI at h
 by_cases h1 : g.r < 0 ∨ g.n < 0
 ·rw [if_pos h1] at h; cases h
 rw [if_neg h1] at h
 by_cases h2 : g.r > 128 ∨ g.n > 128 ∨ g.r + g.n > 128 ∨ 1024 < g.es.length
 ·rw [if_pos h2] at h; cases h
 exact ⟨⟨by omega, by omega, by omega⟩, by omega⟩
def badP : Option Edg → Edg → Bool
 | some q, e => !befB q e
 | none, _ => false
def chkL (g : Gr) : Option Edg → List Edg → Int
 | _, [] => 0
 | p, e :: l => if alwI g e ≠ 0 then alwI g e else if badP p e = true then 16 else chkL g (some e) l
def checkI (g : Gr) : Int := if sizeI g ≠ 0 then sizeI g else chkL g none g.es
def prevO (l : List Edg) (i : Nat) : Option Edg := if i = 0 then none else l[i - 1]?
theorem prevO_succ {l : List Edg} {i : Nat} (h : i < l.length) : prevO l (i + 1) = some l[i] := by simp [prevO, h]
/-- one round of the check -/
theorem chk_step {g : Gr} {l : List Edg} {i : Nat} (h : i < l.length) : chkL g (prevO l i) (l.drop i) = if alwI g l[i] ≠ 0 then alwI g l[i] else if badP (prevO l i) l[i] = true then 16 else chkL g (prevO l (i + 1)) (l.drop (i + 1)) := by
 rw [List.drop_eq_getElem_cons h, prevO_succ h]; rfl
theorem row_at' {α : Type} (f : α → List FV) (l : List α) (i : Nat) (h : i < l.length) : (l.map f)[i]? = some (f l[i]) := by simp [h]
end Go.Pl
/- Routes of a table and what the functions on them compute. No program in sight. -/
namespace Go.Pl
open Go Go.RT
set_option linter.all false
structure Hop where
  ad : Int
  ifc : Int
  ro : Int
  we : Int
  via : Pfx
  deriving DecidableEq
structure Rte where
  pf : Pfx
  pr : Int
  di : Int
  me : Int
  tg : Int
  hs : List Hop
  deriving DecidableEq
def outB (n lo hi : Int) : Bool := decide (n < lo) || decide (hi < n)
/-- the first that is not 0 -/
def fst3 (a b c : Int) : Int := if a ≠ 0 then a else if b ≠ 0 then b else c
def cmpP (p q : Pfx) : Int := if (decide (p.addr < q.addr) || decide (p.addr = q.addr) && decide (p.len < q.len)) = true then -1 else if p = q then 0 else 1
def cmpHo (a b : Hop) : Int := fst3 (cmpI a.ad b.ad) (cmpI a.ifc b.ifc) (cmpI a.ro b.ro)
def cmpRt (a b : Rte) : Int := fst3 (cmpP a.pf b.pf) (cmpI a.di b.di) (cmpI a.pr b.pr)
def badHo : Option Hop → Hop → Bool
  | none, _ => false
  | some q, h => decide (0 ≤ cmpHo q h)
def hopE (h : Hop) : Int := if (outB h.ifc (-1) 15 || outB h.we 1 255) = true then 5 else if (!validB h.via) = true then 1 else 0
def hopsGo : Option Hop → List Hop → Int
  | _, [] => 0
  | p, h :: t => if hopE h ≠ 0 then hopE h else if badHo p h = true then 16 else hopsGo (some h) t
def checkRt (r : Rte) : Int :=
  if (!validB r.pf) = true then 1 else
  if outB r.pr 1 7 = true then 15 else
  if (outB r.di 0 255 || outB r.me 0 16777216 || outB r.tg 0 4294967295) = true then 5 else
  if 64 < r.hs.length then 4 else hopsGo none r.hs
def hasB (l : List Rte) (p : Pfx) (n : Int) : Bool := l.any fun x => decide (x.pf = p) && decide (x.pr = n)
def badRt : Option Rte → Rte → Bool
  | none, _ => false
  | some q, x => decide (0 ≤ cmpRt q x)
def chkGo (l : List Rte) : List Rte → List Rte → Int
  | _, [] => 0
  | s, x :: t => if checkRt x ≠ 0 then checkRt x else if hasB s x.pf x.pr = true then 7 else if badRt s.getLast? x = true then 16 else chkGo l (s ++ [x]) t
def checkL (l : List Rte) : Int := if 2000 < l.length then 4 else chkGo l [] l
def actGo : Option Pfx → List Rte → List Rte
  | _, [] => []
  | p, x :: t => (if p = some x.pf then [] else [x]) ++ actGo (some x.pf) t
def activeF (l : List Rte) : List Rte := if checkL l ≠ 0 then [] else actGo none l
/-- a list of active routes, or nothing -/
def listF (l : List Rte) : List Rte := if (activeF l).length < l.length then [] else l
end Go.Pl
/- Lists of edges and numbers: what the reference's loops compute. -/
namespace Go.Pl
open Go.RT
set_option linter.all false
def isB (f t : Int) (e : Edg) : Bool := decide (e.f = f) && decide (e.t = t)
def fndAt (f t : Int) : Nat → List Edg → Int
  | _, [] => -1
  | k, e :: l => if isB f t e = true then (k : Int) else fndAt f t (k + 1) l
abbrev fndI (l : List Edg) (f t : Int) : Int := fndAt f t 0 l
def costL (f t : Int) : List Edg → Int × Bool
  | [] => (0, false)
  | e :: l => if isB f t e = true then (e.c, true) else costL f t l
theorem cost_fnd (f t : Int) : ∀ (l : List Edg) (k : Nat), (fndAt f t k l = -1 ∧ costL f t l = (0, false)) ∨ ∃ j : Nat, ∃ h : j < l.length, fndAt f t k l = ((k + j : Nat) : Int) ∧ costL f t l = (l[j].c, true)
  | [], k => .inl ⟨rfl, rfl⟩
  | e :: l, k => by
    simp only [fndAt, costL]
    split
    · exact .inr ⟨0, by simp, rfl, rfl⟩
    · rcases cost_fnd f t l (k + 1) with h | ⟨j, h1, h2, h3⟩
      · exact .inl h
      · exact .inr ⟨j + 1, by simp; omega, by rw [h2]; omega, by simpa using h3⟩
end Go.Pl
/- Runs of equal elements cut to one. -/
namespace Go.Pl
set_option linter.all false
def ddF {α : Type} (eq : α → α → Bool) : α → List α → List α
  | _, [] => []
  | p, x :: l => bif eq x p then ddF eq x l else x :: ddF eq x l
def compL {α : Type} (eq : α → α → Bool) : List α → List α
  | [] => []
  | x :: l => x :: ddF eq x l
/-- writing at the end of what is kept -/
theorem set_kept {α : Type} (c l : List α) (x : α) (h : c.length < l.length) : (c ++ l.drop c.length).set c.length x = (c ++ [x]) ++ l.drop (c ++ [x]).length := by
  have e := List.drop_eq_getElem_cons h
  rw [List.set_append, if_neg (by omega), Nat.sub_self, e, List.set_cons_zero]
  simp
theorem kept_get {α : Type} (c l : List α) (j : Nat) (h : c.length ≤ j) : (c ++ l.drop c.length)[j]? = l[j]? := by
  rw [List.getElem?_append, if_neg (by omega), List.getElem?_drop]; congr 1; omega
theorem kept_len {α : Type} (c l : List α) (h : c.length ≤ l.length) : (c ++ l.drop c.length).length = l.length := by simp; omega
end Go.Pl
/- The kit's contract of slices.SortFunc, turned into one of the engine's. -/
namespace Go.RT
open Go Go.Proofs Go.Sort Go.Shelf
set_option linter.all false
theorem Mem.reheap {C : Cx} {H H' : Hp} {nx : Nat} {S : Nat → Prop} {m : Ids} {w : World} (k1 : Mem C H nx S m w) (hh : ∀ id, hlook H' id = hlook H id) : Mem C H' nx S m w :=
  ⟨k1.os, k1.tape, k1.output, k1.fz, k1.size, k1.frame, k1.le, k1.sub, k1.n0, fun id o h => k1.objs id o ((hh id).symm.trans h), fun id o b h => k1.blk id o b ((hh id).symm.trans h), fun a b o1 o2 bb h1 h2 => k1.inj a b o1 o2 bb ((hh a).symm.trans h1) ((hh b).symm.trans h2), k1.stab, k1.fresh, k1.nkeep (Le.refl _ _ _) (Nat.le_refl _) (fun _ _ _ _ _ _ h => h.of fun o h => (hh _).symm.trans h) (fun _ _ _ _ _ _ _ c e _ _ _ k2 k3 => ⟨c, e, k2, k3⟩) (fun b' _ h2 h3 => ⟨rfl, h2, fun id2 o2 h => h3 _ _ ((hh id2).symm.trans h)⟩)⟩
def grown (w : World) (os : Array Obj) (q : Nat) : World := { w with heap := w.heap ++ os, drawn := w.drawn + q }
theorem grown_old (w : World) (os : Array Obj) (q : Nat) {b : Nat} (hb : b < w.heap.size) : (grown w os q).heap[b]? = w.heap[b]? := by simp [grown, Array.getElem?_append, hb]
theorem Mem.grow {C : Cx} {H : Hp} {nx : Nat} {S : Nat → Prop} {m : Ids} {w : World} (hm : Mem C H nx S m w) (os : Array Obj) (q : Nat) : Mem C H nx S m (grown w os q) ∧ Le S m w S m (grown w os q) := by
  have hsz : w.heap.size ≤ (grown w os q).heap.size := by simp [grown]
  have hle : Le S m w S m (grown w os q) := by
    refine ⟨fun _ h => h, fun b hb => grown_old w os q (hm.stab b hb), fun _ _ h => h, fun b n ⟨c, e, fr, h1, h2⟩ => ⟨c, e, fr, ?_, h2⟩⟩
    rw [grown_old w os q (Array.getElem?_eq_some_iff.1 h1).1]; exact h1
  refine ⟨hm.step hle ⟨rfl, Nat.le_add_right _ _⟩ rfl rfl (fun a ha => ?_) hsz (fun b hb _ => grown_old w os q (Nat.lt_of_lt_of_le hb hm.size)) (fun b hb => .inl hb) (fun id o ho => (hm.objs id o ho).mono hle fun b hb => grown_old w os q (hm.blk id o b ho hb).2.1)
    (fun id o b ho hb => ?_) hm.inj (fun b hb => Nat.lt_of_lt_of_le (hm.stab b hb) hsz) hm.fresh (hm.nkeep hle hsz (fun _ _ _ _ _ _ h => h) (fun id sz i j isz irows b2 c2 e2 u _ _ q2 q3 => ⟨c2, e2, (grown_old w os q (Array.getElem?_eq_some_iff.1 q2).1).trans q2, q3⟩) (fun b' h1 h2 h3 => ⟨grown_old w os q h1, h2, h3⟩)), hle⟩
  · simp only [World.frozen?, grown_old w os q ha]
  · obtain ⟨h1, h2, h3⟩ := hm.blk id o b ho hb
    exact ⟨h1, Nat.lt_of_lt_of_le h2 hsz, h3⟩
theorem mapBlock_setRow {w : World} {b : Nat} {c : Array Value} {e : TypeId} {fr : Nat × Nat} (f : Array Value → Array Value) (hc : w.heap[b]? = some (.cells c e fr)) : mapBlock w b f = w.setRow b (f c) := by
  unfold mapBlock World.setRow
  congr 1
  apply Array.ext_getElem?
  intro i
  simp only [Array.getElem?_modify]
  by_cases h : b = i
  · subst h
    simp [hc, onCells]
  · simp [h]
/-- a run that owns nothing: what it leaves is the world it found, grown -/
theorem Mem.is_grown {C : Cx} {nx : Nat} {S : Nat → Prop} {m : Ids} {w : World} (hm : Mem C [] nx S m w) (ho : ∀ b, ¬ C.own0 b) : ∃ q os, w = grown C.w0 os q := by
  refine ⟨w.drawn - C.w0.drawn, w.heap.extract C.w0.heap.size w.heap.size, ?_⟩
  have h1 : w.heap = C.w0.heap ++ w.heap.extract C.w0.heap.size w.heap.size := by
    apply Array.ext_getElem?
    intro i
    by_cases hi : i < C.w0.heap.size
    · rw [Array.getElem?_append_left hi]; exact hm.frame i hi (ho i)
    · rw [Array.getElem?_append_right (by omega), Array.getElem?_extract]
      have := hm.size
      by_cases h2 : i < w.heap.size
      · rw [if_pos (by simp; omega)]; congr 1; omega
      · rw [if_neg (by simp; omega)]; exact Array.getElem?_eq_none (by omega)
  have h2 : w.drawn = C.w0.drawn + (w.drawn - C.w0.drawn) := by have := hm.os.2; omega
  obtain ⟨heap, tape, drawn, os, output⟩ := w
  unfold grown
  simp only at h1 h2
  have e1 := hm.tape; have e2 := hm.os.1; have e3 := hm.output
  simp only at e1 e2 e3
  subst e1 e2 e3
  simp only [World.mk.injEq, true_and, and_true]
  exact ⟨h1, h2⟩
/-- what slices.SortFunc leaves -/
def sortBy {β : Type} [Inhabited β] (cf : β → β → Int) (l : List β) : List β := (pdq (ltOf cf) l.toArray 0 l.length (Lib.bitLen l.length) true true).toList
theorem sortBy_spec {β : Type} [Inhabited β] (cf : β → β → Int) (hO : SWO (ltOf cf)) (l : List β) : (sortBy cf l).Perm l ∧ (sortBy cf l).length = l.length ∧ ∀ (i j : Nat) (x y : β), i < j → (sortBy cf l)[i]? = some x → (sortBy cf l)[j]? = some y → ¬ cf y x < 0 := by
  have h := pdq_sorts (ltOf cf) hO l.toArray 0 l.length (Lib.bitLen l.length) true true (Nat.zero_le _) (by simp) (Or.inl rfl)
  obtain ⟨⟨p1, p2, p3⟩, p4⟩ := h
  have e : (sortBy cf l).length = l.length := by simpa [sortBy] using p1
  refine ⟨?_, e, fun i j x y hij hx hy => ?_⟩
  · have : ∀ (a : Array β) n, a.size = n → a.extract 0 n = a := fun a n hn => by subst hn; simp
    rw [this _ _ (by simpa using p1), this _ _ (by simp)] at p3
    simpa [sortBy] using p3
  · have hj : j < l.length := by rw [← e]; exact (List.getElem?_eq_some_iff.1 hy).1
    have hj' : j < (pdq (ltOf cf) l.toArray 0 l.length (Lib.bitLen l.length) true true).size := by rw [p1]; simpa using hj
    have := p4 i j (Nat.zero_le _) hij hj
    rw [getElem!_pos _ j hj', getElem!_pos _ i (by omega)] at this
    simp only [sortBy, Array.getElem?_toList] at hx hy
    rw [Array.getElem?_eq_getElem (by omega)] at hx hy
    cases hx; cases hy
    simpa [ltOf] using this
variable {P : Program} {ρ : Ren}
end Go.RT
/- Sorted lists of numbers. -/
namespace Go.RT
open Go
set_option linter.all false
def srtI (l : List Int) : List Int := l.mergeSort fun x y => decide (x ≤ y)
theorem srtI_perm (l : List Int) : (srtI l).Perm l := List.mergeSort_perm l _
theorem srtI_sorted (l : List Int) : (srtI l).Pairwise (fun x y => x ≤ y) := by
  have := List.pairwise_mergeSort (le := fun x y : Int => decide (x ≤ y)) (fun a b c h1 h2 => by simp at h1 h2 ⊢; omega) (fun a b => by simp; omega) l
  exact this.imp (fun h => by simpa using h)
end Go.RT
/- The nodes to which edges lead: sorted and cut, or put in one by one. -/
namespace Go.Pl
open Go.RT
set_option linter.all false
abbrev eqI (x y : Int) : Bool := decide (x = y)
def tosL (n : Int) (l : List Edg) : List Int := (l.filter fun e => decide (e.f = n)).map (·.t)
def Asc (l : List Int) : Prop := l.Pairwise (fun x y => x < y)
theorem Asc.ext : ∀ {a b : List Int}, Asc a → Asc b → (∀ p, p ∈ a ↔ p ∈ b) → a = b
  | [], [], _, _, _ => rfl
  | [], y :: b, _, _, h => by have := (h y).2 (List.mem_cons_self ..); cases this
  | x :: a, [], _, _, h => by have := (h x).1 (List.mem_cons_self ..); cases this
  | x :: a, y :: b, ha, hb, h => by
    obtain ⟨a1, a2⟩ := List.pairwise_cons.1 ha
    obtain ⟨b1, b2⟩ := List.pairwise_cons.1 hb
    have e : x = y := by
      rcases List.mem_cons.1 ((h x).1 (List.mem_cons_self ..)) with e | h1
      · exact e
      · rcases List.mem_cons.1 ((h y).2 (List.mem_cons_self ..)) with e | h2
        · exact e.symm
        · have := b1 x h1; have := a1 y h2; omega
    subst e
    refine congrArg _ (Asc.ext a2 b2 fun p => ?_)
    constructor
    · intro hp
      rcases List.mem_cons.1 ((h p).1 (List.mem_cons_of_mem _ hp)) with e | h1
      · subst e; have := a1 p hp; omega
      · exact h1
    · intro hp
      rcases List.mem_cons.1 ((h p).2 (List.mem_cons_of_mem _ hp)) with e | h1
      · subst e; have := b1 p hp; omega
      · exact h1
theorem ddF_asc : ∀ (l : List Int) (p : Int), (p :: l).Pairwise (fun x y => x ≤ y) → Asc (p :: ddF eqI p l) ∧ ∀ x, x ∈ p :: ddF eqI p l ↔ x ∈ p :: l
  | [], p, _ => ⟨by simp [Asc, ddF], fun x => by simp [ddF]⟩
  | y :: l, p, h => by
    obtain ⟨h1, h2⟩ := List.pairwise_cons.1 h
    obtain ⟨i1, i2⟩ := ddF_asc l y h2
    have hpy := h1 y (List.mem_cons_self ..)
    simp only [ddF]
    by_cases e : y = p
    · subst e
      simp only [eqI, decide_true, cond_true]
      refine ⟨i1, fun x => ?_⟩
      rw [i2]; simp
    · have : eqI y p = false := by simp [eqI, e]
      rw [this, cond_false]
      refine ⟨List.pairwise_cons.2 ⟨fun z hz => ?_, i1⟩, fun x => ?_⟩
      · have := (i2 z).1 hz
        rcases List.mem_cons.1 this with rfl | hz
        · omega
        · have := (List.pairwise_cons.1 h2).1 z hz; omega
      · rw [List.mem_cons, i2, List.mem_cons]; simp
theorem comp_asc {l : List Int} (h : l.Pairwise (fun x y => x ≤ y)) : Asc (compL eqI l) ∧ ∀ x, x ∈ compL eqI l ↔ x ∈ l := by
  cases l with
  | nil => exact ⟨by simp [Asc, compL], fun x => by simp [compL]⟩
  | cons p l => exact ddF_asc l p h
def nextI (n : Int) (l : List Edg) : List Int := compL eqI (srtI (tosL n l))
theorem nextI_spec (n : Int) (l : List Edg) : Asc (nextI n l) ∧ ∀ x, x ∈ nextI n l ↔ ∃ e ∈ l, e.f = n ∧ e.t = x := by
  obtain ⟨h1, h2⟩ := comp_asc (srtI_sorted (tosL n l))
  refine ⟨h1, fun x => ?_⟩
  show x ∈ compL eqI _ ↔ _
  rw [h2, (srtI_perm _).mem_iff]
  simp [tosL, and_assoc]
end Go.Pl
/- The valid graph of edges: sorted, of several edges between the same nodes the cheapest. -/
namespace Go.Pl
open Go.RT Go.Shelf Go.Proofs
set_option linter.all false
instance : Inhabited Edg := ⟨⟨0, 0, 0⟩⟩
theorem cmpI_neg (a b : Int) : cmpI a b < 0 ↔ a < b := by unfold cmpI; split <;> (try split) <;> omega
theorem cmpI_zero (a b : Int) : cmpI a b = 0 ↔ a = b := by unfold cmpI; split <;> (try split) <;> omega
/-- strictly ascending by their ends -/
def ltK (a b : Edg) : Prop := a.f < b.f ∨ a.f = b.f ∧ a.t < b.t
theorem ltK_bef (a b : Edg) : befB a b = true ↔ ltK a b := by simp [befB, ltK]
def AscK (l : List Edg) : Prop := l.Pairwise ltK
theorem AscK.ext : ∀ {a b : List Edg}, AscK a → AscK b → (∀ p, p ∈ a ↔ p ∈ b) → a = b
  | [], [], _, _, _ => rfl
  | [], y :: b, _, _, h => by have := (h y).2 (List.mem_cons_self ..); cases this
  | x :: a, [], _, _, h => by have := (h x).1 (List.mem_cons_self ..); cases this
  | x :: a, y :: b, ha, hb, h => by
    obtain ⟨a1, a2⟩ := List.pairwise_cons.1 ha
    obtain ⟨b1, b2⟩ := List.pairwise_cons.1 hb
    have e : x = y := by
      rcases List.mem_cons.1 ((h x).1 (List.mem_cons_self ..)) with e | h1
      · exact e
      · rcases List.mem_cons.1 ((h y).2 (List.mem_cons_self ..)) with e | h2
        · exact e.symm
        · have := b1 x h1; have := a1 y h2; unfold ltK at *; omega
    subst e
    refine congrArg _ (AscK.ext a2 b2 fun p => ?_)
    constructor
    · intro hp
      rcases List.mem_cons.1 ((h p).1 (List.mem_cons_of_mem _ hp)) with e | h1
      · subst e; have := a1 p hp; unfold ltK at *; omega
      · exact h1
    · intro hp
      rcases List.mem_cons.1 ((h p).2 (List.mem_cons_of_mem _ hp)) with e | h1
      · subst e; have := b1 p hp; unfold ltK at *; omega
      · exact h1
/-- the cheapest edge of each pair of ends, ascending -/
structure Least (l s : List Edg) : Prop where
  asc : AscK s
  sub : ∀ e ∈ s, e ∈ l
  min : ∀ e ∈ s, ∀ e' ∈ l, e'.f = e.f → e'.t = e.t → e.c ≤ e'.c
  all : ∀ e' ∈ l, ∃ e ∈ s, e.f = e'.f ∧ e.t = e'.t
theorem Least.uniq {l a b : List Edg} (ha : Least l a) (hb : Least l b) : a = b := by
  have key : ∀ {a b : List Edg}, Least l a → Least l b → ∀ p, p ∈ a → p ∈ b := fun {a b} ha hb p hp => by
    obtain ⟨q, hq, h1, h2⟩ := hb.all p (ha.sub p hp)
    have := ha.min p hp q (hb.sub q hq) h1 h2
    have := hb.min q hq p (ha.sub p hp) h1.symm h2.symm
    have : p = q := by cases p; cases q; simp only [Edg.mk.injEq]; simp only at *; omega
    rw [this]; exact hq
  exact AscK.ext ha.asc hb.asc fun p => ⟨key ha hb p, key hb ha p⟩
end Go.Pl
/- The order of routes; valid tables. No program in sight. -/
namespace Go.Pl
open Go Go.RT
set_option linter.all false
def ltPf (p q : Pfx) : Prop := p.addr < q.addr ∨ p.addr = q.addr ∧ p.len < q.len
theorem Pfx.ext' {p q : Pfx} (h1 : p.addr = q.addr) (h2 : p.len = q.len) : p = q := by
  cases p; cases q; simp only at h1 h2; subst h1; subst h2; rfl
theorem cmpP_neg (p q : Pfx) : cmpP p q < 0 ↔ ltPf p q := by
  unfold cmpP ltPf
  by_cases c : (decide (p.addr < q.addr) || decide (p.addr = q.addr) && decide (p.len < q.len)) = true
  · rw [if_pos c]; simp at c; simp; omega
  · rw [if_neg c]; simp at c
    constructor
    · intro h; split at h <;> omega
    · intro h; omega
theorem cmpP_zero (p q : Pfx) : cmpP p q = 0 ↔ p = q := by
  unfold cmpP
  by_cases c : (decide (p.addr < q.addr) || decide (p.addr = q.addr) && decide (p.len < q.len)) = true
  · rw [if_pos c]; simp at c
    constructor
    · intro h; cases h
    · intro h; subst h; omega
  · rw [if_neg c]
    by_cases h : p = q
    · simp [h]
    · simp [h]
theorem fst3_neg (a b c : Int) : fst3 a b c < 0 ↔ a < 0 ∨ a = 0 ∧ (b < 0 ∨ b = 0 ∧ c < 0) := by
  unfold fst3
  split
  · omega
  · split <;> omega
def ltRt (a b : Rte) : Prop := ltPf a.pf b.pf ∨ a.pf = b.pf ∧ (a.di < b.di ∨ a.di = b.di ∧ a.pr < b.pr)
theorem cmpRt_neg (a b : Rte) : cmpRt a b < 0 ↔ ltRt a b := by
  unfold cmpRt ltRt
  rw [fst3_neg, cmpP_neg, cmpP_zero, cmpI_neg, cmpI_zero, cmpI_neg]
theorem pf_tri (p q : Pfx) : ltPf p q ∨ p = q ∨ ltPf q p := by
  unfold ltPf
  by_cases h1 : p.addr = q.addr
  · by_cases h2 : p.len = q.len
    · exact .inr (.inl (Pfx.ext' h1 h2))
    · omega
  · omega
theorem ltPf.trans {a b c : Pfx} (h1 : ltPf a b) (h2 : ltPf b c) : ltPf a c := by unfold ltPf at *; omega
theorem ltPf.irr {a : Pfx} (h : ltPf a a) : False := by unfold ltPf at h; omega
theorem ltRt.trans {a b c : Rte} (h1 : ltRt a b) (h2 : ltRt b c) : ltRt a c := by
  unfold ltRt at *
  rcases h1 with h1 | ⟨e1, h1⟩ <;> rcases h2 with h2 | ⟨e2, h2⟩
  · exact .inl (h1.trans h2)
  · exact .inl (e2 ▸ h1)
  · exact .inl (e1 ▸ h2)
  · exact .inr ⟨e1.trans e2, by omega⟩
theorem ltRt.irr {a : Rte} (h : ltRt a a) : False := by
  unfold ltRt at h
  rcases h with h | ⟨_, h⟩
  · exact h.irr
  · omega
def sameK (a b : Rte) : Prop := a.pf = b.pf ∧ a.pr = b.pr
/-- a valid table -/
structure TabOk (l : List Rte) : Prop where
  len : l.length ≤ 2000
  chk : ∀ x ∈ l, checkRt x = 0
  asc : l.Pairwise ltRt
  uni : l.Pairwise fun a b => ¬ sameK a b
theorem hasB_iff {l : List Rte} {p : Pfx} {n : Int} : hasB l p n = true ↔ ∃ x ∈ l, x.pf = p ∧ x.pr = n := by
  simp [hasB, List.any_eq_true]
theorem chk_iff (l : List Rte) : ∀ (t s : List Rte), chkGo l s t = 0 ↔ (∀ x ∈ t, checkRt x = 0) ∧ t.Pairwise ltRt ∧ (t.Pairwise fun a b => ¬ sameK a b) ∧ (∀ x ∈ t, ∀ q, s.getLast? = some q → ltRt q x) ∧ ∀ x ∈ t, ∀ y ∈ s, ¬ sameK y x
  | [], s => by simp [chkGo]
  | x :: t, s => by
    simp only [chkGo]
    by_cases h1 : checkRt x ≠ 0
    · rw [if_pos h1]
      exact ⟨fun h => absurd h h1, fun h => absurd (h.1 x (List.mem_cons_self ..)) h1⟩
    rw [if_neg h1]
    by_cases h2 : hasB s x.pf x.pr = true
    · rw [if_pos h2]
      obtain ⟨y, hy, k1, k2⟩ := hasB_iff.1 h2
      exact ⟨fun h => (by cases h), fun h => absurd ⟨k1, k2⟩ (h.2.2.2.2 x (List.mem_cons_self ..) y hy)⟩
    rw [if_neg h2]
    have hno : ∀ y ∈ s, ¬ sameK y x := fun y hy k => h2 (hasB_iff.2 ⟨y, hy, k⟩)
    by_cases h3 : badRt s.getLast? x = true
    · rw [if_pos h3]
      refine ⟨fun h => (by cases h), fun h => ?_⟩
      cases hs : s.getLast? with
      | none => rw [hs] at h3; cases h3
      | some q =>
        rw [hs] at h3
        have := h.2.2.2.1 x (List.mem_cons_self ..) q hs
        rw [← cmpRt_neg] at this
        simp only [badRt, decide_eq_true_eq] at h3
        omega
    rw [if_neg h3]
    have hlt : ∀ q, s.getLast? = some q → ltRt q x := fun q hq => by
      rw [hq] at h3
      rw [← cmpRt_neg]
      simp only [badRt, decide_eq_true_eq] at h3
      omega
    rw [chk_iff l t (s ++ [x])]
    simp only [List.getLast?_append, List.getLast?_singleton, Option.some_or, Option.some.injEq, List.mem_append, List.mem_singleton]
    constructor
    · rintro ⟨a1, a2, a3, a4, a5⟩
      refine ⟨fun y hy => ?_, List.pairwise_cons.2 ⟨fun y hy => a4 y hy x rfl, a2⟩, List.pairwise_cons.2 ⟨fun y hy => a5 y hy x (.inr rfl), a3⟩, fun y hy q hq => ?_, fun y hy z hz => ?_⟩
      · rcases List.mem_cons.1 hy with rfl | hy
        · simpa using h1
        · exact a1 y hy
      · rcases List.mem_cons.1 hy with rfl | hy
        · exact hlt q hq
        · exact (hlt q hq).trans (a4 y hy x rfl)
      · rcases List.mem_cons.1 hy with rfl | hy
        · exact hno z hz
        · exact a5 y hy z (.inl hz)
    · rintro ⟨a1, a2, a3, a4, a5⟩
      obtain ⟨b1, b2⟩ := List.pairwise_cons.1 a2
      obtain ⟨c1, c2⟩ := List.pairwise_cons.1 a3
      refine ⟨fun y hy => a1 y (List.mem_cons_of_mem _ hy), b2, c2, fun y hy q hq => hq ▸ b1 y hy, fun y hy z hz => ?_⟩
      rcases hz with hz | rfl
      · exact a5 y (List.mem_cons_of_mem _ hy) z hz
      · exact c1 y hy
theorem check_iff (l : List Rte) : checkL l = 0 ↔ TabOk l := by
  unfold checkL
  by_cases h : 2000 < l.length
  · rw [if_pos h]
    exact ⟨fun k => (by cases k), fun k => by have := k.len; omega⟩
  · rw [if_neg h, chk_iff l l []]
    constructor
    · rintro ⟨a1, a2, a3, _, _⟩; exact ⟨by omega, a1, a2, a3⟩
    · rintro ⟨_, a1, a2, a3⟩; exact ⟨a1, a2, a3, fun x _ q hq => by simp at hq, fun x _ y hy => by simp at hy⟩
end Go.Pl
/- Path-vector routes. No program in sight. -/
namespace Go.Pl
open Go Go.RT
set_option linter.all false
structure Seg where
  k : Int
  as' : List Int
  deriving DecidableEq
structure Tlv where
  k : Int
  v : List Int
  deriving DecidableEq
structure Att where
  or' : Int
  pa : List Seg
  nh : Int
  hm : Bool
  md : Int
  hp : Bool
  pf : Int
  am : Bool
  ha : Bool
  aa : Int
  ad : Int
  co : List Int
  ho : Bool
  og : Int
  cl : List Int
  un : List Tlv
  deriving DecidableEq
structure Pvr where
  px : Pfx
  t : Att
  pe : Int
  kd : Int
  ro : Int
  st : Bool
  deriving DecidableEq
abbrev encW (n : Int) : List FV := [If .u32 n]
abbrev VW (l : List Int) : FV := .vals 1 (l.map encW)
abbrev VY (l : List Int) : FV := .vals 1 (l.map encY)
/-- in range, and not larger than what the statements speak of -/
structure okSg (s : Seg) : Prop where
  k : inr .i64 s.k
  n : ∀ x ∈ s.as', inr .i64 x
  len : s.as'.length ≤ 2000000
structure okTl (t : Tlv) : Prop where
  k : inr .i64 t.k
  n : ∀ x ∈ t.v, 0 ≤ x ∧ x < 256
  len : t.v.length ≤ 2000000
structure okAt (a : Att) : Prop where
  or' : inr .i64 a.or'
  pa : ∀ s ∈ a.pa, okSg s
  nh : inr .u32 a.nh
  md : inr .i64 a.md
  pf : inr .i64 a.pf
  aa : inr .i64 a.aa
  ad : inr .u32 a.ad
  co : ∀ x ∈ a.co, inr .u32 x
  og : inr .u32 a.og
  cl : ∀ x ∈ a.cl, inr .u32 x
  un : ∀ t ∈ a.un, okTl t
  lpa : a.pa.length ≤ 2000000
  lco : a.co.length ≤ 2000000
  lcl : a.cl.length ≤ 2000000
  lun : a.un.length ≤ 2000000
structure okPv (r : Pvr) : Prop where
  px : r.px.ok
  t : okAt r.t
  pe : inr .i64 r.pe
  kd : inr .i64 r.kd
  ro : inr .u32 r.ro
end Go.Pl
/- Inserting routes into tables. No program in sight. -/
namespace Go.Pl
open Go Go.RT
set_option linter.all false
end Go.Pl
/- Replacing routes; active routes. No program in sight. -/
namespace Go.Pl
open Go Go.RT
set_option linter.all false
abbrev ascPf (l : List Rte) : Prop := l.Pairwise fun a b => ltPf a.pf b.pf
/-- valid tables whose prefixes ascend -/
structure ActOk (l : List Rte) : Prop where
  tab : TabOk l
  asc : ascPf l
theorem act_all : ∀ (l : List Rte) (p : Option Pfx), ascPf l → (∀ q, p = some q → ∀ x ∈ l, ltPf q x.pf) → actGo p l = l
  | [], p, _, _ => rfl
  | y :: l, p, h, hp => by
    obtain ⟨h1, h2⟩ := List.pairwise_cons.1 h
    simp only [actGo]
    have hc : ¬ p = some y.pf := fun e => (hp _ e y (List.mem_cons_self ..)).irr
    rw [if_neg hc, act_all l (some y.pf) h2 fun q hq x hx => by cases hq; exact h1 x hx]; rfl
theorem ActOk.list {l : List Rte} (h : ActOk l) : listF l = l := by
  have he : activeF l = l := by
    unfold activeF
    rw [if_neg (by simp [(check_iff l).2 h.tab]), act_all l none h.asc fun q hq => by cases hq]
  unfold listF
  rw [he, if_neg (by omega)]
end Go.Pl
/- Lists of prefixes, ascending, each once; changes between lists of active routes. No program in sight. -/
namespace Go.Pl
open Go Go.RT
set_option linter.all false
end Go.Pl
/- Steps of the loops over hops and routes. No program in sight. -/
namespace Go.Pl
open Go Go.RT
set_option linter.all false
def prvG {α : Type} (l : List α) (i : Nat) : Option α := if i = 0 then none else l[i - 1]?
theorem prvG_succ {α : Type} {l : List α} {i : Nat} (h : i < l.length) : prvG l (i + 1) = some l[i] := by simp [prvG, h]
theorem prv_row {α : Type} (f : α → List FV) (l : List α) (d : α) {i : Nat} (h : i ≤ l.length) : ∃ q, 0 < i → prvG l i = some q ∧ (l.map f)[i - 1]? = some (f q) := by
  by_cases h0 : 0 < i
  · exact ⟨l[i - 1], fun _ => ⟨by simp [prvG]; omega, by rw [List.getElem?_map, List.getElem?_eq_getElem (by omega)]; rfl⟩⟩
  · exact ⟨d, fun h => absurd h h0⟩
end Go.Pl
/- Which nodes can be reached. -/
namespace Go.Pl
open Go.RT
set_option linter.all false
inductive Rch (l : List Edg) (a : Int) : Int → Prop where
  | here : Rch l a a
  | step (e : Edg) : e ∈ l → Rch l a e.f → Rch l a e.t
open Classical in
/-- a checked graph's edges lie between its nodes -/
theorem chkL_alw {g : Gr} : ∀ (l : List Edg) (p : Option Edg), chkL g p l = 0 → ∀ e ∈ l, alwI g e = 0
  | [], _, _, e, he => by cases he
  | x :: l, p, h, e, he => by
    simp only [chkL] at h
    by_cases h1 : alwI g x = 0
    · rw [if_neg (by simp [h1])] at h
      by_cases h2 : badP p x = true
      · rw [if_pos h2] at h; cases h
      · rw [if_neg h2] at h
        rcases List.mem_cons.1 he with rfl | he
        · exact h1
        · exact chkL_alw l _ h e he
    · rw [if_pos h1] at h; exact absurd h h1
theorem checkI_ok {g : Gr} (h : checkI g = 0) : szOk g ∧ g.es.length ≤ 1024 ∧ chkL g none g.es = 0 := by
  unfold checkI at h
  by_cases h1 : sizeI g = 0
  · rw [if_neg (by simp [h1])] at h
    exact ⟨(sizeI_ok h1).1, (sizeI_ok h1).2, h⟩
  · rw [if_pos h1] at h; exact absurd h h1
theorem alwI_node {g : Gr} {e : Edg} (h : alwI g e = 0) : (0 ≤ e.f ∧ e.f < g.r + g.n) ∧ (0 ≤ e.t ∧ e.t < g.r + g.n) := by
  unfold alwI at h
  by_cases h1 : nodeB g e.f = false ∨ nodeB g e.t = false
  · rw [if_pos h1] at h; cases h
  · simp only [not_or, Bool.not_eq_false, nodeB, Bool.and_eq_true, decide_eq_true_eq] at h1
    exact h1
/-- how many are marked -/
def cntT (l : List Bool) : Nat := l.countP (· == true)
theorem cntT_set {l : List Bool} {v : Nat} (h : l[v]? = some false) : cntT (l.set v true) = cntT l + 1 := by
  obtain ⟨hv, he⟩ := List.getElem?_eq_some_iff.1 h
  induction l generalizing v with
  | nil => simp at hv
  | cons x l ih =>
    cases v with
    | zero => simp at he; subst he; simp [cntT]
    | succ v =>
      have hv2 : v < l.length := by simpa using hv
      have := ih (by simpa using h) hv2 (by simpa using he)
      unfold cntT at *
      simp only [List.set_cons_succ, List.countP_cons, this]; omega
open Go.RT
open Classical in
/-- what the search knows -/
structure Bfs (g : Gr) (a : Int) (out : List Bool) (l : List Int) (i : Nat) : Prop where
  len : out.length = (g.r + g.n).toNat
  from_ : out[a.toNat]? = some true
  i_le : i ≤ l.length
  mem : ∀ x ∈ l, 0 ≤ x ∧ x < g.r + g.n ∧ out[x.toNat]? = some true ∧ Rch g.es a x
  all : ∀ v : Nat, out[v]? = some true → (v : Int) ∈ l
  cnt : l.length = cntT out
  done : ∀ x ∈ l.take i, ∀ e ∈ g.es, e.f = x → out[e.t.toNat]? = some true
theorem set_true {out : List Bool} {v w : Nat} (h : out[w]? = some true) : (out.set v true)[w]? = some true := by
  rw [List.getElem?_set]
  obtain ⟨h1, _⟩ := List.getElem?_eq_some_iff.1 h
  split
  · rename_i e; subst e; rw [if_pos h1]
  · exact h
theorem Bfs.next {g : Gr} {a : Int} {out : List Bool} {l : List Int} {i : Nat} (h : Bfs g a out l i) {x : Int} (hx : l[i]? = some x) (hd : ∀ y ∈ nextI x g.es, out[y.toNat]? = some true) : Bfs g a out l (i + 1) := by
  obtain ⟨hi, hxe⟩ := List.getElem?_eq_some_iff.1 hx
  refine ⟨h.len, h.from_, hi, h.mem, h.all, h.cnt, fun y hy e he1 he2 => ?_⟩
  rw [List.take_succ_eq_append_getElem hi] at hy
  rcases List.mem_append.1 hy with hy | hy
  · exact h.done y hy e he1 he2
  · have : y = x := by simpa [hxe] using hy
    exact hd e.t (((nextI_spec x g.es).2 e.t).2 ⟨e, he1, by omega, rfl⟩)
theorem Bfs.start {g : Gr} {k : Nat} (hk : (k : Int) < g.r + g.n) : Bfs g k ((List.replicate (g.r + g.n).toNat false).set k true) [(k : Int)] 0 := by
  have hf : (List.replicate (g.r + g.n).toNat false)[k]? = some false := by rw [List.getElem?_replicate, if_pos (by omega)]
  have h0 : cntT (List.replicate (g.r + g.n).toNat false) = 0 := by
    unfold cntT; rw [List.countP_eq_zero]; intro b hb; rw [List.eq_of_mem_replicate hb]; simp
  have hkk : ((List.replicate (g.r + g.n).toNat false).set k true)[k]? = some true := by rw [List.getElem?_set, if_pos rfl, if_pos (by simp; omega)]
  refine ⟨by simp, by simpa using hkk, by simp, fun x hx => ?_, fun v hv => ?_, by rw [cntT_set hf, h0]; rfl, fun x hx => by simp at hx⟩
  · have : x = k := by simpa using hx
    subst this
    exact ⟨by omega, hk, by simpa using hkk, .here⟩
  · rw [List.getElem?_set] at hv
    split at hv
    · rename_i e; subst e; simp
    · rw [List.getElem?_replicate] at hv; split at hv <;> simp at hv
end Go.Pl
