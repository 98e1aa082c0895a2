/- A part of the proof: RT28, RT29, RT30, RT31, RT32, RT33, RTZ, RT34, RT35, RT36, RTW, TabX, G0, HP0, X1, GP1, X2, X3, LayX, GP2, SRT, SRI, GP3, HP1, X4, X5, HP2, X6, X7, X8, X9. -/
import Derived.Test.YtcillieggklaaaaGreatZB
import Derived.Scope
import Derived.Maps.Keyed
import Derived.Carry
import Derived.Test.YtcillieggklaaaaGreatChecked
import Derived.Eval
import Derived.Shelf.Lays
import Derived.Ground.NamesProg
import Derived.Shelf.SlLaysF
import Derived.Ground.SlsfProg
import Derived.Shelf.SlSortCmp.NoneTotal
import Derived.Shelf.Sort.Plain
import Derived.Shelf.Slices.In.SortNone
set_option linter.all false
/- Labels and scopes; tests of pointers against nil; maps. -/
namespace Go.RT
open Go
set_option linter.all false
section
variable {P : Program} {C : Cx} {N : Nat} {G : Env} {H : Hp} {nx : Nat} {Q : Exit → Act → World → Prop}
theorem n_label {l : Nat} (h : Next C N G H nx (Q .normal)) : Next C N G H nx ((Code.label l).wp P Q) := fun a w hr => wp_label (h a w hr)
theorem n_scope {c : Code} (h : Next C N G H nx (c.wp P (Exit.noGoto Q))) : Next C N G H nx ((Code.scope c).wp P Q) := fun a w hr => wp_scope_straight (h a w hr)
theorem s_ng (h : Next C N G H nx (Q .normal)) : Next C N G H nx (Exit.noGoto Q .normal) := h
theorem s_ng_ret (h : Next C N G H nx (Q .ret)) : Next C N G H nx (Exit.noGoto Q .ret) := h
theorem s_ng_exit {id : Nat} (h : Next C N G H nx (Q (.exit id))) : Next C N G H nx (Exit.noGoto Q (.exit id)) := h
theorem nK2 {K K' : Act → World → Prop} (h : Next C N G H nx K')
    (hk : Next C N G H nx K' → Next C N G H nx K := by
      intro h
      (repeat (first | refine n_seq ?_ | refine n_block ?_ | refine n_skip ?_ | refine n_exit ?_ | refine n_ret ?_ | refine n_label ?_ | refine n_scope ?_ | refine s_then ?_ | refine s_then_ret ?_ | refine s_then_exit ?_ | refine s_blk _ ?_ | refine s_blk_ret ?_ | refine s_blk_hit ?_ | refine s_blk_miss rfl ?_ | refine s_ng ?_ | refine s_ng_ret ?_ | refine s_ng_exit ?_))
      exact h) : Next C N G H nx K := hk h
end
section
variable {P : Program} {o : Oper} {g : Bool} {G : Env} {x y : Operand} {t t' : TypeId} {H : Hp} {nx : Nat}
theorem run_ptrnilIn (d : Nat) {e : TypeId} (ht : P.underlying t = some (.pointer e)) (w : World) (ad : Addr) : (Op.equalIn (d + 1) t (.pointer (some ad)) (.pointer none)).run P w = .ok false w := by
  simp [Op.equalIn, run_underlying ht]
theorem run_ptrnil {e : TypeId} (ht : P.underlying t = some (.pointer e)) (w : World) (ad : Addr) : (Op.equal t (.pointer (some ad)) (.pointer none)).run P w = .ok false w := run_ptrnilIn 9999 ht w ad
theorem op_eqlnilp {e : TypeId} {id sz row col : Nat} [hd : TyD P t (.pointer e)] (ho : o.op = .binOp .eql t x (.const (.pointer none)) t') (hx : Opd G g x (.ptr id sz row col)) : OpP P o g G (BV false) :=
  .of fun S m a w hg ha => by
    have h1 := hx.rep hg (by simp [ho, Op.operands]) ha
    generalize hv : a.eval x = v at h1
    cases h1 with
    | ptr _ _ _ _ b hb =>
      refine ⟨.bool false, ?_, .fz _ _ (.lit _)⟩
      have hk : a.eval (.const (.pointer none)) = .pointer none := rfl
      have h0 : (eqGuard .eql t x (.const (.pointer none)) (.pointer (some ⟨b, row * sz + col, none⟩)) (.pointer none)).run P w = .ok () w := rfl
      have h2 := run_ptrnil (P := P) hd.h w ⟨b, row * sz + col, none⟩
      simp only [execOp, ho, hv, hk, Sem.run_bind, h0, binOp, h2, Result.andThen_ok, Sem.run_pure]
theorem op_neqnilp {e : TypeId} {id sz row col : Nat} [hd : TyD P t (.pointer e)] (ho : o.op = .binOp .neq t x (.const (.pointer none)) t') (hx : Opd G g x (.ptr id sz row col)) : OpP P o g G (BV true) :=
  .of fun S m a w hg ha => by
    have h1 := hx.rep hg (by simp [ho, Op.operands]) ha
    generalize hv : a.eval x = v at h1
    cases h1 with
    | ptr _ _ _ _ b hb =>
      refine ⟨.bool true, ?_, .fz _ _ (.lit _)⟩
      have hk : a.eval (.const (.pointer none)) = .pointer none := rfl
      have h0 : (eqGuard .neq t x (.const (.pointer none)) (.pointer (some ⟨b, row * sz + col, none⟩)) (.pointer none)).run P w = .ok () w := rfl
      have h2 := run_ptrnil (P := P) hd.h w ⟨b, row * sz + col, none⟩
      simp only [execOp, ho, hv, hk, Sem.run_bind, h0, binOp, h2, Result.andThen_ok, Sem.run_pure, Bool.not_false]
/-! ## maps -/
mutual
/-- the value of a reading that has no memory -/
def valF : FV → Value
  | .lit v => v
  | .agg fs => .agg (valFs fs).toArray
  | .tup fs => .tuple (valFs fs).toArray
  | _ => undef
def valFs : List FV → List Value
  | [] => []
  | f :: r => valF f :: valFs r
end
theorem valFs_eq : ∀ fs, valFs fs = fs.map valF
  | [] => rfl
  | f :: r => by simp [valFs, valFs_eq r]
theorem FRep.val {w : World} {S : Nat → Prop} {v : Value} {f : FV} (h : FRep w S v f) : RT.memless f = true → v = valF f := by
  induction h with
  | lit v => exact fun _ => rfl
  | agg cs fs hl _ _ ih =>
    intro hm
    simp only [RT.memless] at hm
    simp only [valF, valFs_eq]
    congr 1
    refine Array.ext' (List.ext_getElem? fun i => ?_)
    simp only [Array.getElem?_toList, List.getElem?_map]
    cases hc : cs[i]? with
    | none =>
      rw [List.getElem?_eq_none (by rw [← hl]; exact Array.getElem?_eq_none_iff.1 hc)]; rfl
    | some c =>
      have hi : i < fs.length := by rw [← hl]; exact (Array.getElem?_eq_some_iff.1 hc).1
      rw [List.getElem?_eq_getElem hi]
      exact congrArg some (ih i c fs[i] hc (List.getElem?_eq_getElem hi) (memlesss_mem hm _ (List.getElem_mem hi)))
  | tup cs fs hl _ ih =>
    intro hm
    simp only [RT.memless] at hm
    simp only [valF, valFs_eq]
    congr 1
    refine Array.ext' (List.ext_getElem? fun i => ?_)
    simp only [Array.getElem?_toList, List.getElem?_map]
    cases hc : cs[i]? with
    | none =>
      rw [List.getElem?_eq_none (by rw [← hl]; exact Array.getElem?_eq_none_iff.1 hc)]; rfl
    | some c =>
      have hi : i < fs.length := by rw [← hl]; exact (Array.getElem?_eq_some_iff.1 hc).1
      rw [List.getElem?_eq_getElem hi]
      exact congrArg some (ih i c fs[i] hc (List.getElem?_eq_getElem hi) (memlesss_mem hm _ (List.getElem_mem hi)))
  | clo => exact fun hm => by simp [RT.memless] at hm
  | nil => exact fun hm => by simp [RT.memless] at hm
  | vals => exact fun hm => by simp [RT.memless] at hm
  | cellp => exact fun hm => by simp [RT.memless] at hm
  | mapn => exact fun hm => by simp [RT.memless] at hm
  | mapv => exact fun hm => by simp [RT.memless] at hm
/-- keys of a type, encoded -/
class KEnc (P : Program) (kt : TypeId) (κ : Type) (ek : κ → FV) (okK : outParam (κ → Prop)) : Prop where
  keyed : Maps.Keyed P kt
  ml : ∀ k, memless (ek k) = true
  some : ∀ k, okK k → ∃ l, keyOf P kt (valF (ek k)) = some l
  inj : ∀ a b, valF (ek a) = valF (ek b) → a = b
open Go.ChangeMaps (setBlock)
section
variable {κ ν : Type} [DecidableEq κ] {ek : κ → FV} {ev : ν → FV} {okK : κ → Prop} {kt et : TypeId}
end
end
end Go.RT
/- A call that is lent objects and leaves them as they were. -/
namespace Go.RT
open Go
set_option linter.all false
section
variable {P : Program} {o : Oper} {g : Bool} {G : Env} {H : Hp} {nx : Nat}
theorem Lent.agree {L : List Nat} {n : Nat} {H H' Hin : Hp} (h : Lent L n H Hin) (ha : ∀ i, L.contains i = true → hlook H' i = hlook H i) : Lent L n H' Hin :=
  ⟨h.len, h.nodup, h.all, fun i o hi => by
    obtain ⟨h1, h2, h3⟩ := h.get i o hi
    exact ⟨h1, (ha _ (by simp only [List.contains_eq_mem, decide_eq_true_eq, renI, List.getD_eq_getElem?_getD]; rw [List.getElem?_eq_getElem (by rw [h.len]; exact h1)]; exact List.getElem_mem _)).trans h2, h3⟩⟩
theorem callH_same {L : List Nat} {n : Nat} {H Hin : Hp} (h : Lent L n H Hin) (hHo : ∀ x ∈ Hin, x.1 < n) (id : Nat) : hlook (callH L Hin L H) id = hlook H id := by
  have hnd := nodupB_spec h.nodup
  have hmem : ∀ i, i < n → renI L i ∈ L := fun i hi => by simp [renI, h.len, hi]
  unfold callH
  rw [List.append_assoc, hlook_append]
  split
  · rename_i hm
    obtain ⟨x, hx, rfl⟩ := List.mem_map.1 hm
    obtain ⟨y, hy, rfl⟩ := List.mem_map.1 hx
    have hlt := hHo y hy
    simp only [renE]
    rw [hlook_ren h.len hnd hHo y.1 hlt]
    obtain ⟨o2, ho2⟩ := h.all y.1 hlt
    rw [ho2, (h.get y.1 o2 ho2).2.1]; rfl
  · rename_i hm
    rw [hlook_append]
    split
    · rename_i hm2
      exfalso
      obtain ⟨x, hx, rfl⟩ := List.mem_map.1 hm2
      obtain ⟨i, hi, rfl⟩ := List.mem_map.1 hx
      obtain ⟨j, hj, he⟩ := List.getElem_of_mem hi
      have hjn : j < n := by rw [← h.len]; exact hj
      obtain ⟨o2, ho2⟩ := h.all j hjn
      refine hm (List.mem_map.2 ⟨renE L (j, some o2), List.mem_map.2 ⟨(j, some o2), ?_, rfl⟩, ?_⟩)
      · have : ∀ {A : Hp}, hlook A j = some o2 → (j, some o2) ∈ A := fun {A} hA => by
          induction A with
          | nil => cases hA
          | cons a A ih =>
            obtain ⟨k, v⟩ := a
            rw [hlook_cons] at hA
            by_cases hk : k = j
            · rw [if_pos hk] at hA; subst hk; rw [hA]; exact List.mem_cons_self ..
            · rw [if_neg hk] at hA; exact List.mem_cons_of_mem _ (ih hA)
        exact this ho2
      · simp [renE, renI, hj, he]
    · rfl
/-- A CALL THAT READS lent objects and leaves them as they were. -/
theorem op_call_read {f : FuncId} {cf : Operand} {xs : List Operand} {ts : Array TypeId} {fs cs ps args : List PV} {n : Nat} {Hin : Hp} {res : FV} (L : List Nat) (hM : g = true → Meets P f args n Hin (.fz res) Hin n) [hb : FnB P f] (ho : o.op = .call { callee := .value cf, args := xs.toArray, argTypes := ts })
    (hf : Opd G g cf (.clo f fs cs)) (hx : Opds G g xs ps) (hargs : fs ++ ps ++ cs = args.map (renP L)) (hlt : args.all (ltP n) = true) (hL : Lent L n H Hin) (hHo : Hin.all (fun x => Nat.blt x.1 n) = true) : OpL P o g G H L (.fz res) := fun H' nx' hag => by
  have hL' := hL.agree hag
  have hHo' : ∀ x ∈ Hin, x.1 < n := fun x hx => blt_of (List.all_eq_true.1 hHo x hx)
  have h := op_call (P := P) (o := o) (g := g) (G := G) (H := H') (nx := nx') (H' := callH (L ++ List.range' nx' (n - n)) Hin L H') (nx' := nx' + (n - n)) (res' := .fz res) L hM ho hf hx hargs hlt hL' (by simp [Nat.ble_eq]) hHo rfl rfl rfl
  refine ⟨fun C S m a w hm hg ha K Q hK => h.run C S m a w hm hg ha K Q fun v w' S' m' hm' hle hr => hK v w' S' m' ?_ hle hr⟩
  rw [Nat.sub_self, Nat.add_zero] at hm'
  simp only [List.range'_zero, List.append_nil] at hm'
  exact hm'.reheap2 fun id => (callH_same hL' hHo' id).symm
end
end Go.RT
/- The engine, part 30: a region that draws, order by order. -/
namespace Go.RT
section
variable {P : Program} {ops : Array Oper} {N : Nat} {C : Cx} {Q : Exit → Act → World → Prop} {X : Array Bool} {G : Env} {H : Hp} {nx : Nat}
/-- from any point of a region that draws -/
def AnyN (P : Program) (ops : Array Oper) (N : Nat) (C : Cx) (Q : Exit → Act → World → Prop) (X : Array Bool) (G : Env) (H : Hp) (nx : Nat) : Prop :=
  ∀ fuel a w, (X.toList.filter (!·)).length ≤ fuel → Rel C N G H nx a w → wpAny P .any ops Q fuel X a w
def StepN (P : Program) (ops : Array Oper) (N : Nat) (C : Cx) (Q : Exit → Act → World → Prop) (X : Array Bool) (G : Env) (H : Hp) (nx : Nat) (i : Nat) : Prop :=
  ∃ o, ops[i]? = some o ∧ o.guard = none ∧ (match o.dst with | some d => Nat.blt d N | none => true) = true ∧ Nat.blt ((X.setIfInBounds i true).toList.filter (!·)).length (X.toList.filter (!·)).length = true ∧
    ∃ p H1 nx1, OpS P o true G H nx p H1 nx1 ∧ AnyN P ops N C Q (X.setIfInBounds i true) (gput G o.dst p) H1 nx1
theorem AnyN.nil (hr : Region.ready .any ops X = []) (h : Next C N G H nx (Q .normal)) : AnyN P ops N C Q X G H nx := fun fuel a w _ hR => by
  cases fuel with
  | zero => exact ⟨hr, h a w hR⟩
  | succ fuel => exact ⟨fun _ => h a w hR, fun i hi => by rw [hr] at hi; cases hi⟩
theorem AnyN.step {L : List Nat} (hr : Region.ready .any ops X = L) (hne : L ≠ []) (h : ∀ i ∈ L, StepN P ops N C Q X G H nx i) : AnyN P ops N C Q X G H nx := fun fuel a w hf hR => by
  cases fuel with
  | zero =>
    exfalso
    cases L with
    | nil => exact hne rfl
    | cons i L =>
      obtain ⟨o, _, _, _, h4, _⟩ := h i (by simp)
      have := Nat.le_of_ble_eq_true h4
      omega
  | succ fuel =>
    refine ⟨fun e => absurd (hr.symm.trans e) hne, fun i hi => ?_⟩
    obtain ⟨o, h1, h2, h3, h4, p, H1, nx1, h5, h6⟩ := h i (by rw [← hr]; exact hi)
    have h4' := Nat.le_of_ble_eq_true h4
    obtain ⟨S, m, hm, hsl⟩ := hR.mem
    unfold wpOp
    simp only [h1]
    rw [if_pos (by simp [Region.wanted, h2])]
    refine .inl (h5.run C S m a w hm rfl (fun t q _ hq => hsl t q hq) _ _ fun v w' S' m' hm' hle hv => ?_)
    refine h6 fuel _ _ (by omega) ⟨by rw [put_defers]; exact hR.defers, by rw [put_size]; exact hR.size, S', m', hm', fun t q hq => ?_⟩
    rw [look_gput] at hq
    by_cases hd : o.dst = some t
    · rw [if_pos hd] at hq; cases hq
      rw [hd]
      have hlt : t < N := by rw [hd] at h3; exact Nat.le_of_ble_eq_true h3
      exact ⟨v, put_self (by rw [hR.size]; exact hlt), hv⟩
    · rw [if_neg hd] at hq
      obtain ⟨u, hu, hr2⟩ := hsl t q hq
      exact ⟨u, (put_at hd).trans hu, hr2.mono hle⟩
theorem StepN.mk {i : Nat} {o : Oper} {p : PV} {H1 : Hp} {nx1 : Nat} (h1 : ops[i]? = some o) (h5 : OpS P o true G H nx p H1 nx1) (h2 : o.guard = none) (h3 : (match o.dst with | some d => Nat.blt d N | none => true) = true) (h4 : Nat.blt ((X.setIfInBounds i true).toList.filter (!·)).length (X.toList.filter (!·)).length = true)
    (h6 : AnyN P ops N C Q (X.setIfInBounds i true) (gput G o.dst p) H1 nx1) : StepN P ops N C Q X G H nx i := ⟨o, h1, h2, h3, h4, p, H1, nx1, h5, h6⟩
theorem AnyN.one (i : Nat) (hr : Region.ready .any ops X = [i]) (h : StepN P ops N C Q X G H nx i) : AnyN P ops N C Q X G H nx := .step hr (by simp) fun j hj => by simp at hj; subst hj; exact h
theorem AnyN.two (i j : Nat) (hr : Region.ready .any ops X = [i, j]) (h : StepN P ops N C Q X G H nx i) (h2 : StepN P ops N C Q X G H nx j) : AnyN P ops N C Q X G H nx := .step hr (by simp) fun k hk => by
  simp at hk; rcases hk with rfl | rfl
  · exact h
  · exact h2
theorem draw_tree {id : Nat} {l : List Oper} (hm : P.follows .mixedOrders = true) (h : AnyN P l.toArray N C Q (Array.replicate l.toArray.size false) G H nx) : Next C N G H nx ((Code.region id l.toArray true).wp P Q) := by
  intro a w hR
  obtain ⟨S, m, hmem, hslots⟩ := hR.mem
  have hle : Le S m w S m { w with drawn := w.drawn + 1 } := ⟨fun _ h => h, fun _ _ => rfl, fun _ _ h => h, fun _ _ h => h⟩
  exact wp_region_any hm (h _ _ _ (by simp) ⟨hR.defers, hR.size, S, m, hmem.drew, fun t q hq => (hslots t q hq).mono hle⟩)
theorem draw_tree2 {id : Nat} {l : List Oper} (G1 : Env) (H1 : Hp) (nx1 : Nat) (hm : P.follows .mixedOrders = true) (h : Next C N G1 H1 nx1 (Q .normal) → AnyN P l.toArray N C Q (Array.replicate l.toArray.size false) G H nx) (hK : Next C N G1 H1 nx1 (Q .normal)) : Next C N G H nx ((Code.region id l.toArray true).wp P Q) := draw_tree hm (h hK)
end
end Go.RT
/- The engine, part 31: rows of slices that their cells own. -/
namespace Go.RT
def ownL (sz : Nat) (irs : List (List (List FV))) : List (List PV) := irs.map fun r => [PV.own sz r]
def fzL (sz : Nat) (irs : List (List (List FV))) : List (List FV) := irs.map fun r => [FV.vals sz r]
theorem renO_own (L : List Nat) (sz : Nat) (irs : List (List (List FV))) : renO L (.refs 1 (ownL sz irs)) = .refs 1 (ownL sz irs) := by
  simp only [renO, ownL, List.map_map]
  congr 1
theorem ltO_own (n sz : Nat) (irs : List (List (List FV))) : ltO n (.refs 1 (ownL sz irs)) := fun r hr => by
  obtain ⟨r0, _, rfl⟩ := List.mem_map.1 hr; rfl
theorem ent_own {L F : List Nat} {H : Hp} {id sz : Nat} {irs : List (List (List FV))} (h1 : Nat.blt id L.length = true) (h2 : F.contains (renI L id) = false) (h3 : hlook H (renI L id) = some (.refs 1 (ownL sz irs))) : Nat.blt id L.length = true ∧ F.contains (renI L id) = false ∧ EntO L F H (renI L id) (.refs 1 (ownL sz irs)) :=
  ent_same h1 h2 (by rw [renO_own]; exact h3) (ltO_own _ _ _)
theorem ownL_set (sz : Nat) (irs : List (List (List FV))) (i : Nat) (r : List (List FV)) : (ownL sz irs).set i [PV.own sz r] = ownL sz (irs.set i r) := List.map_set.symm
theorem ownL_get {sz : Nat} {irs : List (List (List FV))} {i : Nat} {r : List (List FV)} (h : irs[i]? = some r) : (ownL sz irs)[i]? = some [PV.own sz r] := by unfold ownL; rw [List.getElem?_map, h]; rfl
theorem ownL_rep (sz n : Nat) : List.replicate n [PV.own sz []] = ownL sz (List.replicate n []) := by unfold ownL; rw [List.map_replicate]
theorem fzL_get {sz : Nat} {irs : List (List (List FV))} {i : Nat} {r : List (List FV)} (h : irs[i]? = some r) : (fzL sz irs)[i]? = some [FV.vals sz r] := by unfold fzL; rw [List.getElem?_map, h]; rfl
theorem set_get {α : Type} (l : List α) (i : Nat) (x : α) (h : i < l.length) : (l.set i x)[i]? = some x := by rw [List.getElem?_set]; simp [h]
theorem ownL_len (sz : Nat) (irs : List (List (List FV))) : (ownL sz irs).length = irs.length := by simp [ownL]
end Go.RT
namespace Go.RT
theorem own_back {sz : Nat} {irs : List (List (List FV))} {v : Nat} {x y : List PV} {r : List (List FV)} : (((ownL sz irs).set v x).set v y).set v [PV.own sz r] = ownL sz (irs.set v r) := by rw [List.set_set, List.set_set, ownL_set]
theorem fzL_len (sz : Nat) (irs : List (List (List FV))) : (fzL sz irs).length = irs.length := by simp [fzL]
theorem take_all0 {α : Type} {l : List α} {k : Nat} (h : l.length = k) : (l.drop 0).take k = l := by subst h; simp
end Go.RT
/- The engine, part 32: a frozen slice clipped: 's[:len(s):len(s)]'. -/
namespace Go.RT
section
variable {P : Program} {o : Oper} {g : Bool} {G : Env} {x : Operand} {t : TypeId}
end
end Go.RT
/- The engine, part 33: a region that draws, where only the order of its effects is gone through. -/
namespace Go.RT
section
variable {P : Program} {ops : Array Oper} {N : Nat} {C : Cx} {Q : Exit → Act → World → Prop}
/-- what is asked of the region: no guards; slots written once; who reads a slot waits for it; edges lead back -/
def yOK (ops : Array Oper) (N : Nat) : Bool :=
  (List.range ops.size).all fun i => match ops[i]? with
    | none => true
    | some o => o.guard.isNone && (match o.dst with | some d => decide (d < N) | none => true) && (o.after.all fun e => !Region.binds .any e || decide (e.on < i)) &&
      (List.range ops.size).all fun j => match ops[j]? with
        | none => true
        | some oj => match oj.dst with
          | none => true
          | some d => (!decide (o.dst = some d) || decide (j = i)) && (!(opTmps o).contains d || o.after.any fun e => Region.binds .any e && decide (e.on = j))
structure YOk (ops : Array Oper) (N : Nat) : Prop where
  grd : ∀ (i : Nat) (o : Oper), ops[i]? = some o → o.guard = none
  dst : ∀ (i : Nat) (o : Oper) (d : Tmp), ops[i]? = some o → o.dst = some d → d < N
  back : ∀ (i : Nat) (o : Oper) (e : Edge), ops[i]? = some o → e ∈ o.after → Region.binds .any e = true → e.on < i
  once : ∀ (i j : Nat) (d : Tmp), dstOf ops i = some d → dstOf ops j = some d → i = j
  read : ∀ (i j : Nat) (o : Oper) (d : Tmp), ops[i]? = some o → dstOf ops j = some d → d ∈ opTmps o → ∃ e ∈ o.after, Region.binds .any e = true ∧ e.on = j
theorem yOK_spec (h : yOK ops N = true) : YOk ops N := by
  have hj : ∀ j o, ops[j]? = some o → _ := fun j o ho => by
    have := List.all_eq_true.1 h j (List.mem_range.2 (Array.getElem?_eq_some_iff.1 ho).1)
    rw [ho] at this
    exact this
  simp only [Bool.and_eq_true, Array.all_eq_true_iff_forall_mem, Bool.or_eq_true, Bool.not_eq_true', decide_eq_true_eq, decide_eq_false_iff_not, List.all_eq_true, List.mem_range] at hj
  have hd : ∀ {j : Nat} {d : Tmp}, dstOf ops j = some d → ∃ oj, ops[j]? = some oj ∧ oj.dst = some d ∧ j < ops.size := fun {j d} h => by
    unfold dstOf at h
    obtain ⟨oj, h1, h2⟩ := Option.bind_eq_some_iff.1 h
    exact ⟨oj, h1, h2, (Array.getElem?_eq_some_iff.1 h1).1⟩
  refine ⟨fun j o ho => ?_, fun j o d ho hd => ?_, fun j o e ho he hb => ?_, fun i j d h1 h2 => ?_, fun i j o d ho h1 h2 => ?_⟩
  · exact Option.isNone_iff_eq_none.1 (hj j o ho).1.1.1
  · have := (hj j o ho).1.1.2
    rw [hd] at this
    simpa using this
  · rcases (hj j o ho).1.2 e he with h | h
    · rw [hb] at h; cases h
    · exact h
  · obtain ⟨oi, a1, a2, a3⟩ := hd h1
    obtain ⟨oj, b1, b2, b3⟩ := hd h2
    have := (hj i oi a1).2 j b3
    rw [b1] at this
    simp only [b2, Bool.and_eq_true, Bool.or_eq_true, Bool.not_eq_true', decide_eq_false_iff_not, decide_eq_true_eq] at this
    rcases this.1 with h | h
    · exact absurd a2 h
    · exact h.symm
  · obtain ⟨oj, b1, b2, b3⟩ := hd h1
    have := (hj i o ho).2 j b3
    rw [b1] at this
    simp only [b2, Bool.and_eq_true, Bool.or_eq_true, Bool.not_eq_true', decide_eq_false_iff_not, decide_eq_true_eq] at this
    rcases this.2 with h | h
    · exact absurd h2 (by simpa using h)
    · rw [Array.any_eq_true'] at h
      obtain ⟨e, he, hb⟩ := h
      simp only [Bool.and_eq_true, decide_eq_true_eq] at hb
      exact ⟨e, he, hb⟩
/-- a pure operation that may be done at any time from now on -/
def Virt (P : Program) (ops : Array Oper) (Y : Array Bool) (G : Env) (i : Nat) : Prop :=
  ∃ o p, ops[i]? = some o ∧ (∀ H nx, OpS P o true G H nx p H nx) ∧ (∀ d, o.dst = some d → look G d = some p) ∧ ∀ t ∈ opTmps o, ∀ j, dstOf ops j = some t → Y.getD j false = true
/-- the operations Y are done, or can be done at any time -/
def AnyY (P : Program) (ops : Array Oper) (N : Nat) (C : Cx) (Q : Exit → Act → World → Prop) (Y : Array Bool) (G : Env) (H : Hp) (nx : Nat) : Prop :=
  ∀ fuel X a w, X.size = ops.size → (∀ i, X.getD i false = true → Y.getD i false = true) → (∀ i, Y.getD i false = true → X.getD i false = false → Virt P ops Y G i) → (X.toList.filter (!·)).length ≤ fuel → a.defers = [] → a.tmps.size = N →
    (∃ S m, Mem C H nx S m w ∧ ∀ t q, look G t = some q → (∀ i, Y.getD i false = true → X.getD i false = false → dstOf ops i ≠ some t) → RepAt w S m a t q) → wpAny P .any ops Q fuel X a w
theorem virt_more {Y : Array Bool} {G : Env} {i j : Nat} {d : Option Tmp} {p : PV} (hj : j < Y.size) (hd : dstOf ops j = d) (hY : Y.getD j false = false) (hG : ∀ t, d = some t → look G t = none) (h : Virt P ops Y G i) : Virt P ops (Y.setIfInBounds j true) (gput G d p) i := by
  obtain ⟨o, q, h1, h2, h3, h4⟩ := h
  have hlk : ∀ t ∈ opTmps o, look (gput G d p) t = look G t := fun t ht => by
    rw [look_gput, if_neg]
    intro e
    have := h4 t ht j (hd.trans e)
    rw [hY] at this; cases this
  refine ⟨o, q, h1, fun H nx => ⟨fun C S m a w hm hg hr => (h2 H nx).run C S m a w hm hg fun t q ht hq => hr t q ht (by rw [hlk t ht]; exact hq)⟩, fun t ht => ?_, fun t ht k hk => ?_⟩
  · rw [look_gput]
    by_cases e : d = some t
    · have := hG t e
      rw [h3 t ht] at this; cases this
    · rw [if_neg e]; exact h3 t ht
  · exact (set_iff hj).2 (.inr (h4 t ht k hk))
theorem AnyY.virt {Y : Array Bool} {G : Env} {H : Hp} {nx : Nat} (hok : yOK ops N = true) (i : Nat) {o : Oper} {p : PV} (ho : ops[i]? = some o) (hp : ∀ H nx, OpS P o true G H nx p H nx) (hs : (Region.ready .any ops Y).contains i = true) (hYs : Y.size = ops.size) (hG : ∀ t, o.dst = some t → look G t = none)
    (h : AnyY P ops N C Q (Y.setIfInBounds i true) (gput G o.dst p) H nx) : AnyY P ops N C Q Y G H nx := by
  have hgd := yOK_spec hok
  have hir : i ∈ Region.ready .any ops Y := by simpa using hs
  obtain ⟨hn0, o', ho', hrd⟩ := mem_ready.1 hir
  rw [ho] at ho'; cases ho'
  have hin : i < ops.size := (Array.getElem?_eq_some_iff.1 ho).1
  have hYi : Y.getD i false = false := by
    have : i < Y.size := by rw [hYs]; exact hin
    simpa [Array.getD, this] using hn0
  have hdi : dstOf ops i = o.dst := by unfold dstOf; rw [ho]; rfl
  intro fuel X a w hX hXY hV hf h1 h2 ⟨S, m, hm, hsl⟩
  have hset := fun j => set_iff (X := Y) (i := i) (j := j) (by rw [hYs]; exact hin)
  refine h fuel X a w hX (fun j hj => (hset j).2 (.inr (hXY j hj))) (fun j hj hx => ?_) hf h1 h2 ⟨S, m, hm, fun t q hq hn => ?_⟩
  · rcases (hset j).1 hj with rfl | hj
    · have hno : ∀ t ∈ opTmps o, look (gput G o.dst p) t = look G t := fun t ht => by
        rw [look_gput, if_neg]
        intro e
        obtain ⟨ed, he, hb, hon⟩ := hgd.read j j o t ho (hdi.trans e) ht
        have := hgd.back j o ed ho he hb
        omega
      refine ⟨o, p, ho, fun H nx => ⟨fun C S m a w hm hg hr => (hp H nx).run C S m a w hm hg fun t q ht hq => hr t q ht (by rw [hno t ht]; exact hq)⟩, fun d hd => by rw [look_gput, if_pos hd], fun t ht k hk => ?_⟩
      obtain ⟨ed, he, hb, hon⟩ := hgd.read j k o t ho hk ht
      have := hrd ed he hb
      rw [hon] at this
      exact (hset k).2 (.inr this)
    · exact virt_more (by rw [hYs]; exact hin) hdi hYi hG (hV j hj hx)
  · rw [look_gput] at hq
    by_cases e : o.dst = some t
    · exact absurd (hdi.trans e) (hn i ((hset i).2 (.inl rfl)) (by
        cases hx : X.getD i false with
        | false => rfl
        | true => rw [hXY i hx] at hYi; cases hYi))
    · rw [if_neg e] at hq
      exact hsl t q hq fun j hj hx => hn j ((hset j).2 (.inr hj)) hx
def StepY (P : Program) (ops : Array Oper) (N : Nat) (C : Cx) (Q : Exit → Act → World → Prop) (Y : Array Bool) (G : Env) (H : Hp) (nx : Nat) (j : Nat) : Prop :=
  ∃ o p H1 nx1, ops[j]? = some o ∧ OpS P o true G H nx p H1 nx1 ∧ (∀ t, o.dst = some t → look G t = none) ∧ AnyY P ops N C Q (Y.setIfInBounds j true) (gput G o.dst p) H1 nx1
theorem filt_set : ∀ (l : List Bool) (i : Nat) (h : i < l.length), l[i] = false → ((l.set i true).filter (!·)).length + 1 ≤ (l.filter (!·)).length := by
  intro l
  induction l with
  | nil => intro i h; simp at h
  | cons b l ih =>
    intro i h hb
    cases i with
    | zero => simp at hb; subst hb; simp
    | succ i =>
      simp only [List.set_cons_succ, List.filter_cons]
      have := ih i (by simpa using h) (by simpa using hb)
      cases b <;> simp <;> omega
theorem some_ready (hgd : YOk ops N) {X : Array Bool} (hX : X.size = ops.size) (hr : Region.ready .any ops X = []) : ∀ i, i < ops.size → X.getD i false = true := by
  intro i
  induction i using Nat.strongRecOn with
  | _ i ih =>
    intro hi
    cases hx : X.getD i false with
    | true => rfl
    | false =>
      have : i ∈ Region.ready .any ops X := mem_ready.2 ⟨by
        have : i < X.size := by omega
        simpa [Array.getD, this] using hx, ops[i], by simp [hi], fun e he hb => by
        have := hgd.back i ops[i] e (by simp [hi]) he hb
        exact ih e.on this (by omega)⟩
      rw [hr] at this; cases this
theorem AnyY.step {Y : Array Bool} {G : Env} {H : Hp} {nx : Nat} {L : List Nat} (hok : yOK ops N = true) (hYs : Y.size = ops.size) (hr : Region.ready .any ops Y = L) (h0 : L = [] → Next C N G H nx (Q .normal)) (h : ∀ j ∈ L, StepY P ops N C Q Y G H nx j) : AnyY P ops N C Q Y G H nx := by
  have hgd := yOK_spec hok
  intro fuel
  induction fuel with
  | zero =>
    intro X a w hX hXY hV hf h1 h2 ⟨S, m, hm, hsl⟩
    have hall : ∀ i, i < ops.size → X.getD i false = true := fun i hi => by
      have hi' : i < X.toList.length := by simpa [hX] using hi
      cases hx : X.getD i false with
      | true => rfl
      | false =>
        have hxi : X.toList[i] = false := by
          have : i < X.size := by omega
          simpa [Array.getD, this] using hx
        have := filt_set X.toList i hi' hxi
        omega
    have hrX : Region.ready .any ops X = [] := List.eq_nil_iff_forall_not_mem.2 fun i hi => by
      obtain ⟨g1, o, g2, _⟩ := mem_ready.1 hi
      have hin := (Array.getElem?_eq_some_iff.1 g2).1
      have := hall i hin
      have hi2 : i < X.size := by omega
      simp [Array.getD, hi2] at g1 this
      rw [this] at g1; cases g1
    have hL : L = [] := by
      rw [← hr]
      exact List.eq_nil_iff_forall_not_mem.2 fun i hi => by
        obtain ⟨g1, o, g2, _⟩ := mem_ready.1 hi
        have hin := (Array.getElem?_eq_some_iff.1 g2).1
        have := hXY i (hall i hin)
        have hi2 : i < Y.size := by omega
        simp [Array.getD, hi2] at g1 this
        rw [this] at g1; cases g1
    refine ⟨hrX, h0 hL a w ⟨h1, h2, S, m, hm, fun t q hq => hsl t q hq fun i hi hx => ?_⟩⟩
    intro hd
    have hin : i < ops.size := by
      unfold dstOf at hd
      obtain ⟨oj, g1, _⟩ := Option.bind_eq_some_iff.1 hd
      exact (Array.getElem?_eq_some_iff.1 g1).1
    rw [hall i hin] at hx; cases hx
  | succ fuel ih =>
    intro X a w hX hXY hV hf h1 h2 ⟨S, m, hm, hsl⟩
    refine ⟨fun hrX => ?_, fun i hi => ?_⟩
    · have hall := some_ready hgd hX hrX
      have hL : L = [] := by
        rw [← hr]
        exact List.eq_nil_iff_forall_not_mem.2 fun i hi => by
          obtain ⟨g1, o, g2, _⟩ := mem_ready.1 hi
          have hin := (Array.getElem?_eq_some_iff.1 g2).1
          have := hXY i (hall i hin)
          have hi2 : i < Y.size := by omega
          simp [Array.getD, hi2] at g1 this
          rw [this] at g1; cases g1
      refine h0 hL a w ⟨h1, h2, S, m, hm, fun t q hq => hsl t q hq fun i hi hx => ?_⟩
      intro hd
      have hin : i < ops.size := by
        unfold dstOf at hd
        obtain ⟨oj, g1, _⟩ := Option.bind_eq_some_iff.1 hd
        exact (Array.getElem?_eq_some_iff.1 g1).1
      rw [hall i hin] at hx; cases hx
    · obtain ⟨hn0, o, ho, hrd⟩ := mem_ready.1 hi
      have hin : i < ops.size := (Array.getElem?_eq_some_iff.1 ho).1
      have hiX : i < X.size := by omega
      have hx : X.getD i false = false := by simpa [Array.getD, hiX] using hn0
      have hset := fun j => set_iff (X := X) (i := i) (j := j) hiX
      have hdi : dstOf ops i = o.dst := by unfold dstOf; rw [ho]; rfl
      have hfu : ((X.setIfInBounds i true).toList.filter (!·)).length ≤ fuel := by
        rw [show (X.setIfInBounds i true).toList = X.toList.set i true by simp]
        have := filt_set X.toList i (by simpa using hiX) (by simpa [Array.getD, hiX] using hx)
        omega
      have hopd : ∀ t q, t ∈ opTmps o → look G t = some q → RepAt w S m a t q := fun t q ht hq => hsl t q hq fun j hj hxj hd => by
        obtain ⟨e, he, hb, hon⟩ := hgd.read i j o t ho hd ht
        have := hrd e he hb
        rw [hon, hxj] at this; cases this
      unfold wpOp
      simp only [ho]
      rw [if_pos (by simp [Region.wanted, hgd.grd i o ho])]
      refine .inl ?_
      by_cases hY : Y.getD i false = true
      · obtain ⟨o', p, g1, g2, g3, g4⟩ := hV i hY hx
        rw [ho] at g1; cases g1
        refine (g2 H nx).run C S m a w hm rfl hopd _ _ fun v w' S' m' hm' hle hv => ?_
        refine ih (X.setIfInBounds i true) (a.put o.dst v) w' (by rw [setSize]; exact hX) (fun j hj => ?_) (fun j hj hxj => hV j hj ?_) hfu (by rw [put_defers]; exact h1) (by rw [put_size]; exact h2) ⟨S', m', hm', fun t q hq hn => ?_⟩
        · rcases (hset j).1 hj with rfl | hj
          · exact hY
          · exact hXY j hj
        · cases hb : X.getD j false with
          | false => rfl
          | true => rw [(hset j).2 (.inr hb)] at hxj; cases hxj
        · by_cases hd : o.dst = some t
          · have := g3 t hd
            rw [hq] at this; cases this
            rw [hd]
            exact ⟨v, put_self (by rw [h2]; exact hgd.dst i o t ho hd), hv⟩
          · obtain ⟨u, hu, hr2⟩ := hsl t q hq fun j hj hxj hdj => by
              by_cases hji : j = i
              · subst hji; exact hd (hdi.symm.trans hdj)
              · refine hn j hj ?_ hdj
                cases hb : (X.setIfInBounds i true).getD j false with
                | false => rfl
                | true => rcases (hset j).1 hb with e | e
                          · exact absurd e hji
                          · rw [e] at hxj; cases hxj
            exact ⟨u, (put_at hd).trans hu, hr2.mono hle⟩
      · have hYf : Y.getD i false = false := by simpa using hY
        have hiL : i ∈ L := by
          rw [← hr]
          refine mem_ready.2 ⟨?_, o, ho, fun e he hb => hXY _ (hrd e he hb)⟩
          have : i < Y.size := by omega
          simpa [Array.getD, this] using hYf
        obtain ⟨o', p, H1, nx1, g1, g2, g3, g4⟩ := h i hiL
        rw [ho] at g1; cases g1
        refine g2.run C S m a w hm rfl hopd _ _ fun v w' S' m' hm' hle hv => ?_
        have hsetY := fun j => set_iff (X := Y) (i := i) (j := j) (by omega)
        refine g4 fuel (X.setIfInBounds i true) (a.put o.dst v) w' (by rw [setSize]; exact hX) (fun j hj => ?_) (fun j hj hxj => ?_) hfu (by rw [put_defers]; exact h1) (by rw [put_size]; exact h2) ⟨S', m', hm', fun t q hq hn => ?_⟩
        · rcases (hset j).1 hj with rfl | hj
          · exact (hsetY j).2 (.inl rfl)
          · exact (hsetY j).2 (.inr (hXY j hj))
        · have hxf : X.getD j false = false := by
            cases hb : X.getD j false with
            | false => rfl
            | true => rw [(hset j).2 (.inr hb)] at hxj; cases hxj
          rcases (hsetY j).1 hj with rfl | hj
          · rw [(hset j).2 (.inl rfl)] at hxj; cases hxj
          · exact virt_more (by omega) hdi hYf g3 (hV j hj hxf)
        · rw [look_gput] at hq
          by_cases hd : o.dst = some t
          · rw [if_pos hd] at hq; cases hq
            rw [hd]
            exact ⟨v, put_self (by rw [h2]; exact hgd.dst i o t ho hd), hv⟩
          · rw [if_neg hd] at hq
            obtain ⟨u, hu, hr2⟩ := hsl t q hq fun j hj hxj hdj => by
              by_cases hji : j = i
              · subst hji; exact hd (hdi.symm.trans hdj)
              · refine hn j ((hsetY j).2 (.inr hj)) ?_ hdj
                cases hb : (X.setIfInBounds i true).getD j false with
                | false => rfl
                | true => rcases (hset j).1 hb with e | e
                          · exact absurd e hji
                          · rw [e] at hxj; cases hxj
            exact ⟨u, (put_at hd).trans hu, hr2.mono hle⟩
theorem draw_y {id : Nat} {l : List Oper} {G : Env} {H : Hp} {nx : Nat} (G1 : Env) (H1 : Hp) (nx1 : Nat) (hm : P.follows .mixedOrders = true) (h : Next C N G1 H1 nx1 (Q .normal) → AnyY P l.toArray N C Q (Array.replicate l.toArray.size false) G H nx) (hK : Next C N G1 H1 nx1 (Q .normal)) : Next C N G H nx ((Code.region id l.toArray true).wp P Q) := by
  intro a w hR
  obtain ⟨S, m, hmem, hslots⟩ := hR.mem
  have hle : Le S m w S m { w with drawn := w.drawn + 1 } := ⟨fun _ h => h, fun _ _ => rfl, fun _ _ h => h, fun _ _ h => h⟩
  have hfalse : ∀ i, (Array.replicate (l.toArray).size false).getD i false = false := fun i => by
    by_cases h : i < l.length <;> simp [Array.getD, h]
  exact wp_region_any hm (h hK _ _ _ _ (by simp) (fun _ h => h) (fun i hi => by rw [hfalse] at hi; cases hi) (by simp) hR.defers hR.size ⟨S, m, hmem.drew, fun t q hq _ => (hslots t q hq).mono hle⟩)
theorem StepY.mk {Y : Array Bool} {G : Env} {H : Hp} {nx j : Nat} {o : Oper} {p : PV} {H1 : Hp} {nx1 : Nat} (h1 : ops[j]? = some o) (h2 : OpS P o true G H nx p H1 nx1) (h3 : ∀ t, o.dst = some t → look G t = none) (h4 : AnyY P ops N C Q (Y.setIfInBounds j true) (gput G o.dst p) H1 nx1) : StepY P ops N C Q Y G H nx j := ⟨o, p, H1, nx1, h1, h2, h3, h4⟩
theorem AnyY.nil {Y : Array Bool} {G : Env} {H : Hp} {nx : Nat} (hok : yOK ops N = true) (hYs : Y.size = ops.size) (hr : Region.ready .any ops Y = []) (h0 : Next C N G H nx (Q .normal)) : AnyY P ops N C Q Y G H nx := .step hok hYs hr (fun _ => h0) fun j hj => by cases hj
theorem AnyY.one {Y : Array Bool} {G : Env} {H : Hp} {nx : Nat} (i : Nat) (hok : yOK ops N = true) (hYs : Y.size = ops.size) (hr : Region.ready .any ops Y = [i]) (h : StepY P ops N C Q Y G H nx i) : AnyY P ops N C Q Y G H nx := .step hok hYs hr (fun e => by cases e) fun j hj => by simp at hj; subst hj; exact h
theorem AnyY.two {Y : Array Bool} {G : Env} {H : Hp} {nx : Nat} (i j : Nat) (hok : yOK ops N = true) (hYs : Y.size = ops.size) (hr : Region.ready .any ops Y = [i, j]) (h : StepY P ops N C Q Y G H nx i) (h2 : StepY P ops N C Q Y G H nx j) : AnyY P ops N C Q Y G H nx := .step hok hYs hr (fun e => by cases e) fun k hk => by
  simp at hk; rcases hk with rfl | rfl
  · exact h
  · exact h2
theorem AnyY.three {Y : Array Bool} {G : Env} {H : Hp} {nx : Nat} (i j k : Nat) (hok : yOK ops N = true) (hYs : Y.size = ops.size) (hr : Region.ready .any ops Y = [i, j, k]) (h : StepY P ops N C Q Y G H nx i) (h2 : StepY P ops N C Q Y G H nx j) (h3 : StepY P ops N C Q Y G H nx k) : AnyY P ops N C Q Y G H nx := .step hok hYs hr (fun e => by cases e) fun l hl => by
  simp at hl; rcases hl with rfl | rfl | rfl
  · exact h
  · exact h2
  · exact h3
theorem AnyY.toRefs {Y : Array Bool} {G : Env} {H : Hp} {nx : Nat} (id : Nat) {sz : Nat} {rows : List (List FV)} {rows' : List (List PV)} (hl : hlook H id = some (.flat sz rows)) (hr : (rows.map fun r => r.map PV.fz) = rows') (h : AnyY P ops N C Q Y G ((id, some (.refs sz rows')) :: H) nx) : AnyY P ops N C Q Y G H nx := by
  subst hr
  intro fuel X a w h1 h2 h3 h4 h5 h6 ⟨S, m, hm, hsl⟩
  exact h fuel X a w h1 h2 h3 h4 h5 h6 ⟨S, m, hm.retell hl ORep.toRefs (no_own plain_map), hsl⟩
end
end Go.RT
/- Short names of rules. -/
namespace Go.RT
theorem oT {G : Env} {g : Bool} {t : Tmp} {p : PV} (h : look G t = some p) : Opd G g (.tmp t) p := .tmp t p h
theorem oO {G : Env} {g : Bool} {t : Tmp} {p : PV} {g' : Bool} (h : look G t = some (.opt g' p)) (h2 : g = true → g' = true) : Opd G g (.tmp t) p := .topt t p g' h h2
theorem oC {G : Env} {g : Bool} {v : Value} : Opd G g (.const v) (.fz (.lit v)) := .const v
theorem oS {G : Env} {g : Bool} {x : Operand} {xs : List Operand} {p : PV} {ps : List PV} (h : Opd G g x p) (k : Opds G g xs ps) : Opds G g (x :: xs) (p :: ps) := .cons x xs p ps h k
theorem rpZ (d : Nat) {P : Program} {ops : Array Oper} {F : List Kd → Env → Hp → Nat → Prop} {o : Oper} {rest : List Oper} {G : Env} {H : Hp} {nx : Nat} {ks : List Kd} {p : PV} (h1 : (o.guard, o.dst) = (none, some d)) (h : ∀ H nx, OpS P o true G H nx p H nx) (tl : Run P ops F rest (gput G (some d) p) H nx (.p :: ks)) : Run P ops F (o :: rest) G H nx ks := .pure (congrArg Prod.fst h1) (congrArg Prod.snd h1) h tl
theorem rgZ (e : Nat) {P : Program} {ops : Array Oper} {F : List Kd → Env → Hp → Nat → Prop} {o : Oper} {rest : List Oper} {G : Env} {H : Hp} {nx : Nat} {ks : List Kd} {p : PV} {j : Nat} {b g : Bool} {d : Tmp} (h1 : (o.guard, o.dst) = (some (j, b), some e)) (hd : dstOf ops j = some d) (hl : Grd G d b g) (h : ∀ H nx, OpS P o g G H nx p H nx) (tl : Run P ops F rest (gput G (some e) (.opt g p)) H nx (.p :: ks)) : Run P ops F (o :: rest) G H nx ks := .pureG (congrArg Prod.fst h1) (congrArg Prod.snd h1) hd hl h tl
theorem rlZ (d : Nat) {P : Program} {ops : Array Oper} {F : List Kd → Env → Hp → Nat → Prop} {o : Oper} {rest : List Oper} {G : Env} {H : Hp} {nx : Nat} {ks : List Kd} {p : PV} {L : List Nat} (h1 : (o.guard, o.dst) = (none, some d)) (h : OpL P o true G H L p) (tl : Run P ops F rest (gput G (some d) p) H nx (.l L :: ks)) : Run P ops F (o :: rest) G H nx ks := .load (congrArg Prod.fst h1) (congrArg Prod.snd h1) h tl
theorem rkZ (e : Nat) {P : Program} {ops : Array Oper} {F : List Kd → Env → Hp → Nat → Prop} {o : Oper} {rest : List Oper} {G : Env} {H : Hp} {nx : Nat} {ks : List Kd} {p : PV} {j : Nat} {b g : Bool} {d : Tmp} {L : List Nat} (h1 : (o.guard, o.dst) = (some (j, b), some e)) (hd : dstOf ops j = some d) (hl : Grd G d b g) (h : OpL P o g G H L p) (tl : Run P ops F rest (gput G (some e) (.opt g p)) H nx (.l L :: ks)) : Run P ops F (o :: rest) G H nx ks := .loadG (congrArg Prod.fst h1) (congrArg Prod.snd h1) hd hl h tl
theorem rmZ (d : Nat) {P : Program} {ops : Array Oper} {F : List Kd → Env → Hp → Nat → Prop} {o : Oper} {rest : List Oper} {G : Env} {H : Hp} {nx : Nat} {ks : List Kd} {p : PV} {t : Tmp} (h1 : (o.guard, o.dst) = (none, some d)) (ho : o.op = .move (.tmp t)) (hl : look G t = some p) (tl : Run P ops F rest (gput G (some d) p) H nx (.p :: ks)) : Run P ops F (o :: rest) G H nx ks := .pure (congrArg Prod.fst h1) (congrArg Prod.snd h1) (op_move ho (.tmp t p hl)) tl
theorem raZ (d : Nat) {P : Program} {ops : Array Oper} {F : List Kd → Env → Hp → Nat → Prop} {o : Oper} {rest : List Oper} {G : Env} {H : Hp} {nx : Nat} {ks : List Kd} {p : PV} {t : Tmp} (h1 : (o.guard, o.dst) = (none, some d)) (ho : o.op = .assign (.tmp t)) (hl : look G t = some p) (tl : Run P ops F rest (gput G (some d) p) H nx (.p :: ks)) : Run P ops F (o :: rest) G H nx ks := .pure (congrArg Prod.fst h1) (congrArg Prod.snd h1) (op_assign ho (.tmp t p hl)) tl
theorem gmZ (e : Nat) {P : Program} {ops : Array Oper} {F : List Kd → Env → Hp → Nat → Prop} {o : Oper} {rest : List Oper} {G : Env} {H : Hp} {nx : Nat} {ks : List Kd} {p : PV} {t : Tmp} {j : Nat} {b g : Bool} {d : Tmp} (h1 : (o.guard, o.dst) = (some (j, b), some e)) (hd : dstOf ops j = some d) (hl : Grd G d b g) (ho : o.op = .move (.tmp t)) (hk : look G t = some p) (tl : Run P ops F rest (gput G (some e) (.opt g p)) H nx (.p :: ks)) : Run P ops F (o :: rest) G H nx ks := .pureG (congrArg Prod.fst h1) (congrArg Prod.snd h1) hd hl (op_move ho (.tmp t p hk)) tl
theorem rnZ {P : Program} {ops : Array Oper} {C : Cx} {N : Nat} {l : List Oper} {K : Act → World → Prop} {G : Env} {H : Hp} {nx : Nat} {ks : List Kd} (h : Next C N G H nx K) : Run P ops (FinR C N l K) [] G H nx ks := .nil (.mk h)
open Go
section
variable {P : Program} {C : Cx} {N : Nat} {G : Env} {H : Hp} {nx : Nat} {Q : Exit → Act → World → Prop} {K : Act → World → Prop}
/-- two ways that meet again: the state where they meet is told -/
theorem n_join {x : Code} (G' : Env) (H' : Hp) (n' : Nat) (h1 : Next C N G H nx (x.wp P (Exit.then (fun a w => Rel C N G' H' n' a w) Q))) (h2 : Next C N G' H' n' K) : Next C N G H nx (x.wp P (Exit.then K Q)) := fun a w hr =>
  Go.Code.wp_mono (fun e a' w' hq => by
    cases e with
    | normal => exact h2 a' w' hq
    | _ => exact hq) (h1 a w hr)
end
open Go
section
variable {P : Program} {C : Cx} {N : Nat} {G : Env} {H : Hp} {nx : Nat} {Q : Exit → Act → World → Prop} {K : Act → World → Prop}
/-- two ways that meet again at the end of a block -/
theorem n_joinB {x : Code} {id : Nat} (G' : Env) (H' : Hp) (n' : Nat) (h1 : Next C N G H nx (x.wp P (Exit.inBlock id (Exit.then (fun a w => Rel C N G' H' n' a w) Q)))) (h2 : Next C N G' H' n' K) : Next C N G H nx (x.wp P (Exit.inBlock id (Exit.then K Q))) := fun a w hr =>
  Go.Code.wp_mono (fun e a' w' hq => by
    cases e with
    | normal => exact h2 a' w' hq
    | exit k =>
      by_cases hk : k = id
      · subst hk
        rw [blk_hit] at hq ⊢
        exact h2 a' w' hq
      · rw [blk_miss (by cases hq2 : Nat.beq k id with | false => rfl | true => exact absurd (Nat.eq_of_beq_eq_true hq2) hk)] at hq ⊢
        exact hq
    | _ => exact hq) (h1 a w hr)
end
end Go.RT
/- The engine, part 36: four results; the greatest of six numbers. -/
namespace Go.RT
open Go
set_option linter.all false
section
variable {P : Program} {C : Cx} {N : Nat} {G : Env} {H : Hp} {nx : Nat}
theorem rep_tup4 {w : World} {S : Nat → Prop} {m : Ids} {v1 v2 v3 v4 : Value} {f1 f2 f3 f4 : FV} (h1 : Rep w S m v1 (.fz f1)) (h2 : Rep w S m v2 (.fz f2)) (h3 : Rep w S m v3 (.fz f3)) (h4 : Rep w S m v4 (.fz f4)) : Rep w S m (.tuple #[v1, v2, v3, v4]) (.fz (.tup [f1, f2, f3, f4])) := by
  cases h1 with | fz _ _ h1 => cases h2 with | fz _ _ h2 => cases h3 with | fz _ _ h3 => cases h4 with | fz _ _ h4 =>
  refine .fz _ _ (.tup _ _ rfl fun i c f hc hf => ?_)
  match i with
  | 0 => simp at hc hf; subst hc; subst hf; exact h1
  | 1 => simp at hc hf; subst hc; subst hf; exact h2
  | 2 => simp at hc hf; subst hc; subst hf; exact h3
  | 3 => simp at hc hf; subst hc; subst hf; exact h4
  | i + 4 => simp at hf
theorem s_o4 {fn : Func} {f1 f2 f3 f4 : FV} {rv1 rv2 rv3 rv4 : ResultVar} (hC : C.n0 = 0) (hres : fn.results = #[rv1, rv2, rv3, rv4]) (h : RV P G H rv1 f1) (h' : RV P G H rv2 f2) (h'' : RV P G H rv3 f3) (h''' : RV P G H rv4 f4) : Next C N G H nx (Out P fn C (.fz (.tup [f1, f2, f3, f4])) [] 0 .ret) :=
  s_ofin hC fun S m a w hm hsl => by
    obtain ⟨v1, h2, h1⟩ := h.run hm hsl
    obtain ⟨v2, h4, h3⟩ := h'.run hm hsl
    obtain ⟨v3, h6, h5⟩ := h''.run hm hsl
    obtain ⟨v4, h8, h7⟩ := h'''.run hm hsl
    refine ⟨.tuple #[v1, v2, v3, v4], ?_, (rep_tup4 (m := m) (.fz _ _ h2) (.fz _ _ h4) (.fz _ _ h6) (.fz _ _ h8)).frz⟩
    rcases h1 with ⟨r, rfl, e1⟩ | ⟨r, t, ad, rfl, e1, e2⟩ <;> rcases h3 with ⟨r', rfl, e3⟩ | ⟨r', t', ad', rfl, e3, e4⟩ <;> rcases h5 with ⟨r'', rfl, e5⟩ | ⟨r'', t'', ad'', rfl, e5, e6⟩ <;> rcases h7 with ⟨r3, rfl, e7⟩ | ⟨r3, t3, ad3, rfl, e7, e8⟩ <;> simp [results, hres, asAddr, *]
end
section
variable {P : Program} {o : Oper} {g : Bool} {G : Env} {x1 x2 x3 x4 x5 x6 : Operand} {k : IntKind} {a b c d e f : Int}
theorem max_if (a b : Int) : (if b > a then b else a) = max a b := by rw [Int.max_def]; split <;> split <;> omega
theorem op_max6 {ts : Array TypeId} (ho : o.op = .call { callee := .builtin .max, args := #[x1, x2, x3, x4, x5, x6], argTypes := ts }) (h1 : Opd G g x1 (IV k a)) (h2 : Opd G g x2 (IV k b)) (h3 : Opd G g x3 (IV k c)) (h4 : Opd G g x4 (IV k d)) (h5 : Opd G g x5 (IV k e)) (h6 : Opd G g x6 (IV k f)) : OpP P o g G (IV k (max (max (max (max (max a b) c) d) e) f)) :=
  .of fun S m ac w hg ha => by
    have e1 := (h1.rep hg (by simp [ho, Op.operands, Call.operands]) ha).lit
    have e2 := (h2.rep hg (by simp [ho, Op.operands, Call.operands]) ha).lit
    have e3 := (h3.rep hg (by simp [ho, Op.operands, Call.operands]) ha).lit
    have e4 := (h4.rep hg (by simp [ho, Op.operands, Call.operands]) ha).lit
    have e5 := (h5.rep hg (by simp [ho, Op.operands, Call.operands]) ha).lit
    have e6 := (h6.rep hg (by simp [ho, Op.operands, Call.operands]) ha).lit
    refine ⟨.int k (max (max (max (max (max a b) c) d) e) f), by simp only [execOp, ho]; simp [e1, e2, e3, e4, e5, e6, resolve, invoke, builtin, Builtin.max_, Builtin.max2, max_if], .fz _ _ (.lit _)⟩
end
end Go.RT
/- Short names of steps. -/
namespace Go.RT
theorem za {α β : Prop} (k : β) (h : β → α := by intro h; exact rmZ _ rfl rfl rfl h) : α := h k
theorem zb {α β : Prop} (k : β) (h : β → α := by intro h; exact s_reg rfl h) : α := h k
theorem zc {α β : Prop} (k : β) (h : β → α := by intro h; exact rnZ h) : α := h k
theorem zd {α β : Prop} (k : β) (h : β → α := by intro h; exact raZ _ rfl rfl rfl h) : α := h k
theorem ze {α β : Prop} (k : β) (h : β → α := by intro h; exact rpZ _ rfl (op_assign rfl oC) h) : α := h k
theorem zf {α β : Prop} (k : β) (h : β → α := by intro h; exact gmZ _ rfl rfl tG rfl rfl h) : α := h k
theorem zg {α β : Prop} (k : β) (h : β → α := by intro h; exact rpZ _ rfl (op_fld_ptr (by decide) rfl (oT rfl)) h) : α := h k
theorem zh {α β : Prop} (k : β) (h : β → α := by intro h; exact rlZ _ rfl (op_load1_flat rfl (oT rfl) tH rfl) h) : α := h k
theorem zi {α β : Prop} (k : β) (h : β → α := by intro h; exact rpZ _ rfl (op_extract_fz rfl (oT rfl) rfl) h) : α := h k
theorem zj {α β : Prop} (k : β) (h : β → α := by intro h; exact rpZ _ rfl (op_load1_fz rfl (oT rfl) rfl) h) : α := h k
theorem zk {α β : Prop} (k : β) (h : β → α := by intro h; exact rlZ _ rfl (op_loadw_flat rfl (oT rfl) tH rfl) h) : α := h k
theorem zl {α β : Prop} (k : β) (h : β → α := by intro h; exact rpZ _ rfl (op_add rfl (oT rfl) oC tI) h) : α := h k
theorem zm {α β : Prop} (k : β) (h : β → α := by intro h; exact rkZ _ rfl rfl tG (op_load1_flat rfl (oO rfl tO) tH rfl) h) : α := h k
theorem zn {α β : Prop} (k : β) (h : β → α := by intro h; exact rgZ _ rfl rfl tG (op_fld_ptr (by decide) rfl (oT rfl)) h) : α := h k
theorem zo {α β : Prop} (k : β) (h : β → α := by intro h; exact rpZ _ rfl (op_len_fz rfl (by first | exact Opd.tmp _ _ rfl | exact Opd.nil _ _ (oT rfl)) (by first | exact List.length_map _ | rfl)) h) : α := h k
theorem zp {α β : Prop} (k : β) (h : β → α := by intro h; exact rpZ _ rfl (op_lss rfl (oT rfl) (oT rfl)) h) : α := h k
theorem zq {α β : Prop} (k : β) (h : β → α := by intro h; exact Run.eff (dd := _) rfl rfl (op_box_flat rfl (oT rfl) tC rfl) h) : α := h k
theorem zr {α β : Prop} (k : β) (h : β → α := by intro h; exact Run.eff (dd := _) rfl rfl (op_store_flat rfl (oT rfl) (oT rfl) tC rfl rfl (by first | rfl | assumption) tS) h) : α := h k
theorem zs {α β : Prop} (k : β) (h : β → α := by intro h; exact Run.nil (FinD.mk (by kernel_rfl) h)) : α := h k
theorem zt {α β : Prop} (k : β) (h : β → α := by intro h; exact rpZ _ rfl (op_pick_and rfl (oT rfl) (oO rfl tO)) h) : α := h k
theorem zu {α β : Prop} (k : β) (h : β → α := by intro h; exact Run.eff (dd := _) rfl rfl (op_alloc rfl rfl rfl rfl) h) : α := h k
theorem zv {α β : Prop} (k : β) (h : β → α := by intro h; exact rpZ _ rfl (op_pick_or rfl (oT rfl) (oO rfl tO)) h) : α := h k
theorem zw {α β : Prop} (k : β) (h : β → α := by intro h; exact rgZ _ rfl rfl tG (op_load1_fz rfl (oO rfl tO) rfl) h) : α := h k
theorem zx {α β : Prop} (k : β) (h : β → α := by intro h; exact rpZ _ rfl (op_fld_fz (by decide) rfl (oT rfl) tR) h) : α := h k
theorem zy {α β : Prop} (k : β) (h : β → α := by intro h; exact rlZ _ rfl (op_load1_refs rfl (oT rfl) tH rfl) h) : α := h k
theorem zz {α β : Prop} (k : β) (h : β → α := by intro h; exact rpZ _ rfl (op_idx_fz _ rfl (oT rfl) (oT rfl) tF) h) : α := h k
theorem zba {α β : Prop} (k : β) (h : β → α := by intro h; exact rpZ _ rfl (op_nilck_ptr rfl (oT rfl)) h) : α := h k
theorem zbb {α β : Prop} (k : β) (h : β → α := by intro h; exact rpZ _ rfl (op_move rfl oC) h) : α := h k
theorem zbc {α β : Prop} (k : β) (h : β → α := by intro h; exact rpZ _ rfl (op_add rfl (oT rfl) (oT rfl) tI) h) : α := h k
theorem zbd {α β : Prop} (k : β) (h : β → α := by intro h; exact rpZ _ rfl (op_neq rfl (oT rfl) oC) h) : α := h k
theorem zbe {α β : Prop} (k : β) (h : β → α := by intro h; exact rkZ _ rfl rfl tG (op_loadw_flat rfl (oT rfl) tH rfl) h) : α := h k
theorem zbf {α β : Prop} (k : β) (h : β → α := by intro h; exact rpZ _ rfl (op_loadw_fz rfl (oT rfl) rfl) h) : α := h k
theorem zbg {α β : Prop} (k : β) (h : β → α := by intro h; exact rpZ _ rfl (op_neq rfl (oT rfl) (oT rfl)) h) : α := h k
theorem zbh {α β : Prop} (k : β) (h : β → α := by intro h; exact rpZ _ rfl (op_buildSlice_fz rfl (RowsF.cons _ _ _ _ _ _ (oT rfl) tC (by rfl) (RowsF.nil _)) rfl rfl) h) : α := h k
theorem zbi {α β : Prop} (k : β) (h : β → α := by intro h; exact rpZ _ rfl (op_len_sl rfl (oT rfl)) h) : α := h k
theorem zbj {α β : Prop} (k : β) (h : β → α := by intro h; exact rpZ _ rfl (op_not rfl (oT rfl)) h) : α := h k
theorem zbk {α β : Prop} (k : β) (h : β → α := by intro h; exact rgZ _ rfl rfl tG (op_lss rfl (oO rfl tO) (oO rfl tO)) h) : α := h k
theorem zbl {α β : Prop} (k : β) (h : β → α := by intro h; exact rgZ _ rfl rfl tG (op_not rfl (oO rfl tO)) h) : α := h k
theorem zbm {α β : Prop} (k : β) (h : β → α := by intro h; exact rpZ _ rfl (op_build rfl rfl rfl (FillF.nil _)) h) : α := h k
theorem zbn {α β : Prop} (k : β) (h : β → α := by intro h; exact rpZ _ rfl (op_lss rfl (oT rfl) oC) h) : α := h k
theorem zbo {α β : Prop} (k : β) (h : β → α := by intro h; exact rgZ _ rfl rfl tG (op_eql rfl (oO rfl tO) (oO rfl tO)) h) : α := h k
theorem zbp {α β : Prop} (k : β) (h : β → α := by intro h; exact rgZ _ rfl rfl tG (op_move rfl (oO rfl tO)) h) : α := h k
theorem zbq {α β : Prop} (k : β) (h : β → α := by intro h; exact rgZ _ rfl rfl tG (op_fld_fz (by decide) rfl (oT rfl) tR) h) : α := h k
theorem zbr {α β : Prop} (k : β) (h : β → α := by intro h; exact rpZ _ rfl (op_eql rfl (oT rfl) (oT rfl)) h) : α := h k
theorem zbs {α β : Prop} (k : β) (h : β → α := by intro h; exact rgZ _ rfl rfl tG (op_add rfl (oO rfl tO) (oO rfl tO) tI) h) : α := h k
theorem zbt {α β : Prop} (k : β) (h : β → α := by intro h; exact rgZ _ rfl rfl tG (op_len_fz rfl (by first | exact Opd.topt _ _ _ rfl tO | exact Opd.nil _ _ (oO rfl tO)) (by first | exact List.length_map _ | rfl)) h) : α := h k
theorem zbu {α β : Prop} (k : β) (h : β → α := by intro h; exact Run.eff (dd := _) rfl rfl (op_append rfl (oT rfl) (by first | exact Opd.tmp _ _ rfl | exact Opd.nil _ _ (oT rfl)) rfl (by first | rfl | simp) rfl rfl tB tB) h) : α := h k
theorem zbv {α β : Prop} (k : β) (h : β → α := by intro h; exact rpZ _ rfl (op_idx_sl0 _ rfl (oT rfl) (oT rfl) tD) h) : α := h k
theorem zbw {α β : Prop} (k : β) (h : β → α := by intro h; exact rpZ _ rfl (op_sub rfl (oT rfl) (oT rfl) tI) h) : α := h k
theorem zbx {α β : Prop} (k : β) (h : β → α := by intro h; exact rpZ _ rfl (op_sub rfl (oT rfl) oC tI) h) : α := h k
theorem zby {α β : Prop} (k : β) (h : β → α := by intro h; exact rpZ _ rfl (op_geq rfl (oT rfl) oC) h) : α := h k
theorem zbz {α β : Prop} (k : β) (h : β → α := by intro h; exact rgZ _ rfl rfl tG (op_geq rfl (oO rfl tO) (oO rfl tO)) h) : α := h k
theorem zca {α β : Prop} (k : β) (h : β → α := by intro h; exact rpZ _ rfl (op_conv rfl (oT rfl) tI) h) : α := h k
theorem zcb {α β : Prop} (k : β) (h : β → α := by intro h; exact rgZ _ rfl rfl tG (op_gtr rfl (oO rfl tO) oC) h) : α := h k
theorem zcc {α β : Prop} (k : β) (h : β → α := by intro h; exact rgZ _ rfl rfl tG (op_lss rfl (oO rfl tO) oC) h) : α := h k
theorem zcd {α β : Prop} (k : β) (h : β → α := by intro h; exact rgZ _ rfl rfl tG (op_pick_or rfl (oO rfl tO) (oO rfl tO)) h) : α := h k
theorem zce {α β : Prop} (k : β) (h : β → α := by intro h; exact rgZ _ rfl rfl tG (op_eql rfl (oO rfl tO) oC) h) : α := h k
theorem zcf {α β : Prop} (k : β) (h : β → α := by intro h; exact rgZ _ rfl rfl tG (op_pick_and rfl (oO rfl tO) (oO rfl tO)) h) : α := h k
theorem zcg {α β : Prop} (k : β) (h : β → α := by intro h; exact rpZ _ rfl (op_gtr rfl (oT rfl) oC) h) : α := h k
theorem zch {α β : Prop} (k : β) (h : β → α := by intro h; exact Run.effW (dd := _) rfl rfl (op_store_flat rfl (oT rfl) (oT rfl) tC rfl rfl (by first | rfl | assumption) tS) (by first | exact ext_call | exact tE) h) : α := h k
theorem zci {α β : Prop} (k : β) (h : β → α := by intro h; exact rpZ _ rfl (op_eql rfl (oT rfl) oC) h) : α := h k
theorem zcj {α β : Prop} (k : β) (h : β → α := by intro h; exact rpZ _ rfl (op_geq rfl (oT rfl) (oT rfl)) h) : α := h k
theorem zck {α β : Prop} (k : β) (h : β → α := by intro h; exact rgZ _ rfl rfl tG (op_geq rfl (oO rfl tO) oC) h) : α := h k
theorem zcl {α β : Prop} (k : β) (h : β → α := by intro h; exact rgZ _ rfl rfl tG (op_neq rfl (oO rfl tO) (oO rfl tO)) h) : α := h k
theorem zcm {α β : Prop} (k : β) (h : β → α := by intro h; exact rgZ _ rfl rfl tG (op_nilck_ptr rfl (oO rfl tO)) h) : α := h k
theorem zcn {α β : Prop} (k : β) (h : β → α := by intro h; exact rpZ _ rfl (op_gtr rfl (oT rfl) (oT rfl)) h) : α := h k
theorem zco {α β : Prop} (k : β) (h : β → α := by intro h; exact Run.effW (dd := _) rfl rfl (op_append rfl (oT rfl) (by first | exact Opd.tmp _ _ rfl | exact Opd.nil _ _ (oT rfl)) rfl (by first | rfl | simp) rfl rfl tB tB) (by first | exact ext_call | exact tE) h) : α := h k
theorem zcp {α β : Prop} (k : β) (h : β → α := by intro h; exact Run.eff (dd := _) rfl rfl (op_store_refs rfl (oT rfl) (oT rfl) tP rfl rfl rfl tS) h) : α := h k
theorem zcq {α β : Prop} (k : β) (h : β → α := by intro h; exact rgZ _ rfl rfl tG (op_fld_ptr (by decide) rfl (oO rfl tO)) h) : α := h k
theorem zcr {α β : Prop} (k : β) (h : β → α := by intro h; exact rkZ _ rfl rfl tG (op_load1_refs rfl (oO rfl tO) tH rfl) h) : α := h k
theorem zcs {α β : Prop} (k : β) (h : β → α := by intro h; exact rpZ _ rfl (op_buildSlice_fz rfl (RowsF.cons _ _ _ _ _ _ (oT rfl) tC (by rfl) (RowsF.cons _ _ _ _ _ _ (oT rfl) tC (by rfl) (RowsF.nil _))) rfl rfl) h) : α := h k
theorem zct {α β : Prop} (k : β) (h : β → α := by intro h; exact Run.eff (dd := _) rfl rfl (op_buildSlice_own rfl (RowsF.nil _) rfl rfl rfl) h) : α := h k
theorem zcu {α β : Prop} (k : β) (h : β → α := by intro h; exact rgZ _ rfl rfl tG (op_load1_fz rfl (oT rfl) rfl) h) : α := h k
theorem zcv {α β : Prop} (k : β) (h : β → α := by intro h; exact rpZ _ rfl (op_makeFunc rfl (oS (oT rfl) Opds.nil) Opds.nil) h) : α := h k
theorem zcw {α β : Prop} (k : β) (h : β → α := by intro h; exact rgZ _ rfl rfl tG (op_neq rfl (oO rfl tO) oC) h) : α := h k
theorem zcx {α β : Prop} (k : β) (h : β → α := by intro h; exact rgZ _ rfl rfl tG (op_loadw_fz rfl (oO rfl tO) rfl) h) : α := h k
theorem zcy {α β : Prop} (k : β) (h : β → α := by intro h; exact rpZ _ rfl (op_build rfl rfl rfl (FillF.cons _ _ _ _ _ _ _ _ _ _ (by rfl) oC tC (by rfl) tR (FillF.cons _ _ _ _ _ _ _ _ _ _ (by rfl) oC tC (by rfl) tR (FillF.cons _ _ _ _ _ _ _ _ _ _ (by rfl) oC tC (by rfl) tR (FillF.nil _))))) h) : α := h k
theorem zcz {α β : Prop} (k : β) (h : β → α := by intro h; exact rgZ _ rfl rfl tG (op_sub rfl (oO rfl tO) oC tI) h) : α := h k
theorem zda {α β : Prop} (k : β) (h : β → α := by intro h; exact rgZ _ rfl rfl tG (op_gtr rfl (oO rfl tO) (oO rfl tO)) h) : α := h k
theorem zdb {α β : Prop} (k : β) (h : β → α := by intro h; exact rpZ _ rfl (op_build rfl rfl rfl (FillF.cons _ _ _ _ _ _ _ _ _ _ (by rfl) (oT rfl) tC (by rfl) tR (FillF.cons _ _ _ _ _ _ _ _ _ _ (by rfl) (oT rfl) tC (by rfl) tR (FillF.cons _ _ _ _ _ _ _ _ _ _ (by rfl) (oT rfl) tC (by rfl) tR (FillF.nil _))))) h) : α := h k
theorem zdc {α β : Prop} (k : β) (h : β → α := by intro h; exact rpZ _ rfl (op_buildSlice_fz rfl (RowsF.cons _ _ _ _ _ _ oC tC (by rfl) (RowsF.nil _)) rfl rfl) h) : α := h k
theorem zdd {α β : Prop} (k : β) (h : β → α := by intro h; exact rgZ _ rfl rfl tG (op_idx_fz _ rfl (oO rfl tO) (oO rfl tO) tF) h) : α := h k
theorem zde {α β : Prop} (k : β) (h : β → α := by intro h; exact Run.effW (dd := _) rfl rfl (op_buildSlice_own rfl (RowsF.cons _ _ _ _ _ _ (oT rfl) tC (by rfl) (RowsF.nil _)) rfl rfl rfl) (by first | exact ext_call | exact tE) h) : α := h k
theorem zdf {α β : Prop} (k : β) (h : β → α := by intro h; exact Run.eff (dd := _) rfl rfl (op_allocP rfl rfl rfl rfl rfl) h) : α := h k
theorem zdg {α β : Prop} (k : β) (h : β → α := by intro h; exact rgZ _ rfl rfl tG (op_fld_fz (by decide) rfl (oO rfl tO) tR) h) : α := h k
theorem zdh {α β : Prop} (k : β) (h : β → α := by intro h; exact rgZ _ rfl rfl tG (op_idx_sl0 _ rfl (oO rfl tO) (oO rfl tO) tD) h) : α := h k
theorem zdi {α β : Prop} (k : β) (h : β → α := by intro h; exact Run.eff (dd := _) rfl rfl (op_append_own0 rfl (oT rfl) (oT rfl) rfl (by first | rfl | simp) rfl (by first | rfl | simp) rfl rfl tB tB) h) : α := h k
theorem zdj {α β : Prop} (k : β) (h : β → α := by intro h; exact rpZ _ rfl (op_build rfl rfl rfl (FillF.cons _ _ _ _ _ _ _ _ _ _ (by rfl) (oT rfl) tC (by rfl) tR (FillF.cons _ _ _ _ _ _ _ _ _ _ (by rfl) (oT rfl) tC (by rfl) tR (FillF.cons _ _ _ _ _ _ _ _ _ _ (by rfl) oC tC (by rfl) tR (FillF.nil _))))) h) : α := h k
theorem zdk {α β : Prop} (k : β) (h : β → α := by intro h; exact Run.eff (dd := _) rfl rfl (op_buildSlice_own rfl (RowsF.cons _ _ _ _ _ _ oC tC (by rfl) (RowsF.cons _ _ _ _ _ _ (oT rfl) tC (by rfl) (RowsF.cons _ _ _ _ _ _ (oT rfl) tC (by rfl) (RowsF.nil _)))) rfl rfl rfl) h) : α := h k
theorem zdl {α β : Prop} (k : β) (h : β → α := by intro h; exact rgZ _ rfl rfl tG (op_buildSlice_fz rfl (RowsF.cons _ _ _ _ _ _ oC tC (by rfl) (RowsF.cons _ _ _ _ _ _ oC tC (by rfl) (RowsF.cons _ _ _ _ _ _ oC tC (by rfl) (RowsF.nil _)))) rfl rfl) h) : α := h k
theorem wG {α : Prop} (h : α := by repeat (first | exact trivial | refine ⟨⟨_, rfl, .inl ⟨rfl, rfl⟩⟩, ?_⟩ | refine ⟨⟨_, rfl, .inl ⟨slEq rfl tN, rfl⟩⟩, ?_⟩ | refine ⟨⟨_, rfl, .inl ⟨ivEq tX, rfl⟩⟩, ?_⟩)) : α := h
theorem wF {α : Prop} (h : α := by repeat (first | exact trivial | refine ⟨⟨_, rfl, .inl ⟨rfl, rfl⟩⟩, ?_⟩ | refine ⟨⟨_, rfl, .inl ⟨slEq rfl tN, rfl⟩⟩, ?_⟩ | refine ⟨⟨_, rfl, .inl ⟨ivEq tX, rfl⟩⟩, ?_⟩ | refine ⟨⟨_, rfl, .inr ⟨_, rfl, tW⟩⟩, ?_⟩)) : α := h
theorem wS {α : Prop} (h : α := by exact ent_same rfl rfl rfl tL) : α := h
theorem wN {α : Prop} (h : α := by intro _ h; simp at h) : α := h
theorem wR {α : Prop} (h : α := by repeat (first | exact trivial | refine ⟨wS, ?_⟩)) : α := h
theorem wK {α β : Prop} (hC : β) (h : β → α := by intro hC; first | exact keeps0 hC _ | exact keepsN hC _ rfl) : α := h hC
theorem wO {α β : Prop} (hC : β) (h : β → α := by intro hC; first | exact s_o1 hC rfl tV | exact s_o2 hC rfl tV tV | exact s_o3 hC rfl tV tV tV | exact s_o4 hC rfl tV tV tV tV | exact s_out0 hC rfl | exact s_outO hC rfl rfl rfl) : α := h hC
end Go.RT
/- The types and functions of the translation, as the rules ask for them. Written by tab.py. -/
namespace Go.Proofs.YtcillieggklaaaaGreat
open Go Go.RT Go.Proofs
set_option linter.unusedVariables false
theorem mixed : Tryz.prog.follows .mixedOrders = true := Tryz.checked.mixed
theorem tyn_of {P : Program} {t : TypeId} {s b : Nat} {z : Value} (h : (P.info? t).map (fun i => (i.size, i.bytes, i.zero)) = some (s, b, some z)) : TyN P t s b z := by
  obtain ⟨i, hi, he⟩ := Option.map_eq_some_iff.1 h
  simp only [Prod.mk.injEq] at he
  exact ⟨i, hi, he.1, he.2.1, he.2.2⟩
instance : TyA Tryz.prog 1 false := ⟨_, Tryz.underlying1, rfl⟩
instance : TyN Tryz.prog 1 1 8 (.nilFunc) := tyn_of (by kernel_rfl)
instance : TyD Tryz.prog 2 (.int .i64) := ⟨Tryz.underlying2⟩
instance : TyA Tryz.prog 2 false := ⟨_, Tryz.underlying2, rfl⟩
instance : TyN Tryz.prog 2 1 8 (.int .i64 0) := tyn_of (by kernel_rfl)
instance : TyD Tryz.prog 3 (.int .i64) := ⟨Tryz.underlying3⟩
instance : TyA Tryz.prog 3 false := ⟨_, Tryz.underlying3, rfl⟩
instance : TyN Tryz.prog 3 1 8 (.int .i64 0) := tyn_of (by kernel_rfl)
instance : TyD Tryz.prog 4 (.bool) := ⟨Tryz.underlying4⟩
instance : TyA Tryz.prog 4 false := ⟨_, Tryz.underlying4, rfl⟩
instance : TyN Tryz.prog 4 1 1 (.bool false) := tyn_of (by kernel_rfl)
instance : TyD Tryz.prog 5 (.int .u8) := ⟨Tryz.underlying5⟩
instance : TyA Tryz.prog 5 false := ⟨_, Tryz.underlying5, rfl⟩
instance : TyN Tryz.prog 5 1 1 (.int .u8 0) := tyn_of (by kernel_rfl)
instance : TyD Tryz.prog 9 (.string) := ⟨Tryz.underlying9⟩
instance : TyA Tryz.prog 9 false := ⟨_, Tryz.underlying9, rfl⟩
instance : TyN Tryz.prog 9 1 16 (.string ⟨#[]⟩) := tyn_of (by kernel_rfl)
instance : TyD Tryz.prog 12 (.int .u64) := ⟨Tryz.underlying12⟩
instance : TyA Tryz.prog 12 false := ⟨_, Tryz.underlying12, rfl⟩
instance : TyN Tryz.prog 12 1 8 (.int .u64 0) := tyn_of (by kernel_rfl)
instance : TyA Tryz.prog 13 true := ⟨_, Tryz.underlying13, rfl⟩
instance : TyN Tryz.prog 13 2 24 (.agg #[.string ⟨#[]⟩, .int .u64 0]) := tyn_of (by kernel_rfl)
instance : TyF Tryz.prog 13 0 0 9 := ⟨_, _, Tryz.underlying13, rfl, rfl, rfl⟩
instance : TyF Tryz.prog 13 1 1 12 := ⟨_, _, Tryz.underlying13, rfl, rfl, rfl⟩
instance : TyB Tryz.prog 13 [(0, 1), (1, 1)] := ⟨_, Tryz.underlying13, fun w => by kernel_rfl⟩
instance : TyD Tryz.prog 21 (.int .i32) := ⟨Tryz.underlying21⟩
instance : TyA Tryz.prog 21 false := ⟨_, Tryz.underlying21, rfl⟩
instance : TyN Tryz.prog 21 1 4 (.int .i32 0) := tyn_of (by kernel_rfl)
instance : TyD Tryz.prog 22 (.slice 70) := ⟨Tryz.underlying22⟩
instance : TyA Tryz.prog 22 false := ⟨_, Tryz.underlying22, rfl⟩
instance : TyN Tryz.prog 22 1 24 (.slice none 0 0) := tyn_of (by kernel_rfl)
instance : TyA Tryz.prog 23 true := ⟨_, Tryz.underlying23, rfl⟩
instance : TyN Tryz.prog 23 3 40 (.agg #[.int .i64 0, .int .i64 0, .slice none 0 0]) := tyn_of (by kernel_rfl)
instance : TyF Tryz.prog 23 0 0 3 := ⟨_, _, Tryz.underlying23, rfl, rfl, rfl⟩
instance : TyF Tryz.prog 23 1 1 3 := ⟨_, _, Tryz.underlying23, rfl, rfl, rfl⟩
instance : TyF Tryz.prog 23 2 2 22 := ⟨_, _, Tryz.underlying23, rfl, rfl, rfl⟩
instance : TyB Tryz.prog 23 [(0, 1), (1, 1), (2, 1)] := ⟨_, Tryz.underlying23, fun w => by kernel_rfl⟩
instance : TyA Tryz.prog 24 true := ⟨_, Tryz.underlying24, rfl⟩
instance : TyN Tryz.prog 24 3 40 (.agg #[.int .i64 0, .int .i64 0, .slice none 0 0]) := tyn_of (by kernel_rfl)
instance : TyF Tryz.prog 24 0 0 3 := ⟨_, _, Tryz.underlying24, rfl, rfl, rfl⟩
instance : TyF Tryz.prog 24 1 1 3 := ⟨_, _, Tryz.underlying24, rfl, rfl, rfl⟩
instance : TyF Tryz.prog 24 2 2 22 := ⟨_, _, Tryz.underlying24, rfl, rfl, rfl⟩
instance : TyB Tryz.prog 24 [(0, 1), (1, 1), (2, 1)] := ⟨_, Tryz.underlying24, fun w => by kernel_rfl⟩
instance : TyD Tryz.prog 25 (.slice 3) := ⟨Tryz.underlying25⟩
instance : TyA Tryz.prog 25 false := ⟨_, Tryz.underlying25, rfl⟩
instance : TyN Tryz.prog 25 1 24 (.slice none 0 0) := tyn_of (by kernel_rfl)
instance : TyD Tryz.prog 26 (.slice 25) := ⟨Tryz.underlying26⟩
instance : TyA Tryz.prog 26 false := ⟨_, Tryz.underlying26, rfl⟩
instance : TyN Tryz.prog 26 1 24 (.slice none 0 0) := tyn_of (by kernel_rfl)
instance : TyA Tryz.prog 27 true := ⟨_, Tryz.underlying27, rfl⟩
instance : TyN Tryz.prog 27 4 80 (.agg #[.int .i64 0, .slice none 0 0, .slice none 0 0, .slice none 0 0]) := tyn_of (by kernel_rfl)
instance : TyF Tryz.prog 27 0 0 3 := ⟨_, _, Tryz.underlying27, rfl, rfl, rfl⟩
instance : TyF Tryz.prog 27 1 1 25 := ⟨_, _, Tryz.underlying27, rfl, rfl, rfl⟩
instance : TyF Tryz.prog 27 2 2 26 := ⟨_, _, Tryz.underlying27, rfl, rfl, rfl⟩
instance : TyF Tryz.prog 27 3 3 26 := ⟨_, _, Tryz.underlying27, rfl, rfl, rfl⟩
instance : TyB Tryz.prog 27 [(0, 1), (1, 1), (2, 1), (3, 1)] := ⟨_, Tryz.underlying27, fun w => by kernel_rfl⟩
instance : TyA Tryz.prog 28 true := ⟨_, Tryz.underlying28, rfl⟩
instance : TyN Tryz.prog 28 4 80 (.agg #[.int .i64 0, .slice none 0 0, .slice none 0 0, .slice none 0 0]) := tyn_of (by kernel_rfl)
instance : TyF Tryz.prog 28 0 0 3 := ⟨_, _, Tryz.underlying28, rfl, rfl, rfl⟩
instance : TyF Tryz.prog 28 1 1 25 := ⟨_, _, Tryz.underlying28, rfl, rfl, rfl⟩
instance : TyF Tryz.prog 28 2 2 26 := ⟨_, _, Tryz.underlying28, rfl, rfl, rfl⟩
instance : TyF Tryz.prog 28 3 3 26 := ⟨_, _, Tryz.underlying28, rfl, rfl, rfl⟩
instance : TyB Tryz.prog 28 [(0, 1), (1, 1), (2, 1), (3, 1)] := ⟨_, Tryz.underlying28, fun w => by kernel_rfl⟩
instance : TyD Tryz.prog 29 (.slice 46) := ⟨Tryz.underlying29⟩
instance : TyA Tryz.prog 29 false := ⟨_, Tryz.underlying29, rfl⟩
instance : TyN Tryz.prog 29 1 24 (.slice none 0 0) := tyn_of (by kernel_rfl)
instance : TyA Tryz.prog 30 false := ⟨_, Tryz.underlying30, rfl⟩
instance : TyN Tryz.prog 30 1 8 (.nilFunc) := tyn_of (by kernel_rfl)
instance : TyA Tryz.prog 31 false := ⟨_, Tryz.underlying31, rfl⟩
instance : TyN Tryz.prog 31 1 8 (.nilFunc) := tyn_of (by kernel_rfl)
instance : TyD Tryz.prog 32 (.int .i64) := ⟨Tryz.underlying32⟩
instance : TyA Tryz.prog 32 false := ⟨_, Tryz.underlying32, rfl⟩
instance : TyN Tryz.prog 32 1 8 (.int .i64 0) := tyn_of (by kernel_rfl)
instance : TyA Tryz.prog 34 false := ⟨_, Tryz.underlying34, rfl⟩
instance : TyN Tryz.prog 34 1 8 (.nilFunc) := tyn_of (by kernel_rfl)
instance : TyA Tryz.prog 35 false := ⟨_, Tryz.underlying35, rfl⟩
instance : TyN Tryz.prog 35 1 8 (.nilFunc) := tyn_of (by kernel_rfl)
instance : TyA Tryz.prog 36 false := ⟨_, Tryz.underlying36, rfl⟩
instance : TyN Tryz.prog 36 1 8 (.nilFunc) := tyn_of (by kernel_rfl)
instance : TyA Tryz.prog 37 false := ⟨_, Tryz.underlying37, rfl⟩
instance : TyN Tryz.prog 37 1 8 (.nilFunc) := tyn_of (by kernel_rfl)
instance : TyA Tryz.prog 38 false := ⟨_, Tryz.underlying38, rfl⟩
instance : TyN Tryz.prog 38 1 8 (.nilFunc) := tyn_of (by kernel_rfl)
instance : TyD Tryz.prog 39 (.slice 29) := ⟨Tryz.underlying39⟩
instance : TyA Tryz.prog 39 false := ⟨_, Tryz.underlying39, rfl⟩
instance : TyN Tryz.prog 39 1 24 (.slice none 0 0) := tyn_of (by kernel_rfl)
instance : TyA Tryz.prog 41 false := ⟨_, Tryz.underlying41, rfl⟩
instance : TyN Tryz.prog 41 1 8 (.nilFunc) := tyn_of (by kernel_rfl)
instance : TyA Tryz.prog 43 false := ⟨_, Tryz.underlying43, rfl⟩
instance : TyN Tryz.prog 43 1 8 (.nilFunc) := tyn_of (by kernel_rfl)
instance : TyA Tryz.prog 44 false := ⟨_, Tryz.underlying44, rfl⟩
instance : TyN Tryz.prog 44 1 8 (.nilFunc) := tyn_of (by kernel_rfl)
instance : TyA Tryz.prog 45 true := ⟨_, Tryz.underlying45, rfl⟩
instance : TyN Tryz.prog 45 3 24 (.agg #[.int .i64 0, .int .i64 0, .int .i64 0]) := tyn_of (by kernel_rfl)
instance : TyF Tryz.prog 45 0 0 3 := ⟨_, _, Tryz.underlying45, rfl, rfl, rfl⟩
instance : TyF Tryz.prog 45 1 1 3 := ⟨_, _, Tryz.underlying45, rfl, rfl, rfl⟩
instance : TyF Tryz.prog 45 2 2 3 := ⟨_, _, Tryz.underlying45, rfl, rfl, rfl⟩
instance : EqS Tryz.prog 45 3 := ⟨by kernel_rfl, by kernel_rfl, by kernel_rfl, by kernel_rfl⟩
instance : TyB Tryz.prog 45 [(0, 1), (1, 1), (2, 1)] := ⟨_, Tryz.underlying45, fun w => by kernel_rfl⟩
instance : TyA Tryz.prog 46 true := ⟨_, Tryz.underlying46, rfl⟩
instance : TyN Tryz.prog 46 3 24 (.agg #[.int .i64 0, .int .i64 0, .int .i64 0]) := tyn_of (by kernel_rfl)
instance : TyF Tryz.prog 46 0 0 3 := ⟨_, _, Tryz.underlying46, rfl, rfl, rfl⟩
instance : TyF Tryz.prog 46 1 1 3 := ⟨_, _, Tryz.underlying46, rfl, rfl, rfl⟩
instance : TyF Tryz.prog 46 2 2 3 := ⟨_, _, Tryz.underlying46, rfl, rfl, rfl⟩
instance : EqS Tryz.prog 46 3 := ⟨by kernel_rfl, by kernel_rfl, by kernel_rfl, by kernel_rfl⟩
instance : TyB Tryz.prog 46 [(0, 1), (1, 1), (2, 1)] := ⟨_, Tryz.underlying46, fun w => by kernel_rfl⟩
instance : TyA Tryz.prog 47 false := ⟨_, Tryz.underlying47, rfl⟩
instance : TyN Tryz.prog 47 1 8 (.nilFunc) := tyn_of (by kernel_rfl)
instance : TyA Tryz.prog 48 false := ⟨_, Tryz.underlying48, rfl⟩
instance : TyN Tryz.prog 48 1 8 (.nilFunc) := tyn_of (by kernel_rfl)
instance : TyA Tryz.prog 49 false := ⟨_, Tryz.underlying49, rfl⟩
instance : TyN Tryz.prog 49 1 8 (.nilFunc) := tyn_of (by kernel_rfl)
instance : TyA Tryz.prog 51 false := ⟨_, Tryz.underlying51, rfl⟩
instance : TyN Tryz.prog 51 1 8 (.nilFunc) := tyn_of (by kernel_rfl)
instance : TyA Tryz.prog 52 false := ⟨_, Tryz.underlying52, rfl⟩
instance : TyN Tryz.prog 52 1 8 (.nilFunc) := tyn_of (by kernel_rfl)
instance : TyA Tryz.prog 53 false := ⟨_, Tryz.underlying53, rfl⟩
instance : TyN Tryz.prog 53 1 8 (.nilFunc) := tyn_of (by kernel_rfl)
instance : TyA Tryz.prog 54 false := ⟨_, Tryz.underlying54, rfl⟩
instance : TyN Tryz.prog 54 1 8 (.nilFunc) := tyn_of (by kernel_rfl)
instance : TyA Tryz.prog 55 false := ⟨_, Tryz.underlying55, rfl⟩
instance : TyN Tryz.prog 55 1 8 (.nilFunc) := tyn_of (by kernel_rfl)
instance : TyA Tryz.prog 56 false := ⟨_, Tryz.underlying56, rfl⟩
instance : TyN Tryz.prog 56 1 8 (.nilFunc) := tyn_of (by kernel_rfl)
instance : TyA Tryz.prog 57 false := ⟨_, Tryz.underlying57, rfl⟩
instance : TyN Tryz.prog 57 1 8 (.nilFunc) := tyn_of (by kernel_rfl)
instance : TyA Tryz.prog 58 false := ⟨_, Tryz.underlying58, rfl⟩
instance : TyN Tryz.prog 58 1 8 (.nilFunc) := tyn_of (by kernel_rfl)
instance : TyA Tryz.prog 60 false := ⟨_, Tryz.underlying60, rfl⟩
instance : TyN Tryz.prog 60 1 8 (.nilFunc) := tyn_of (by kernel_rfl)
instance : TyA Tryz.prog 61 false := ⟨_, Tryz.underlying61, rfl⟩
instance : TyN Tryz.prog 61 1 8 (.nilFunc) := tyn_of (by kernel_rfl)
instance : TyA Tryz.prog 62 false := ⟨_, Tryz.underlying62, rfl⟩
instance : TyN Tryz.prog 62 1 8 (.nilFunc) := tyn_of (by kernel_rfl)
instance : TyA Tryz.prog 63 false := ⟨_, Tryz.underlying63, rfl⟩
instance : TyN Tryz.prog 63 1 8 (.nilFunc) := tyn_of (by kernel_rfl)
instance : TyA Tryz.prog 64 false := ⟨_, Tryz.underlying64, rfl⟩
instance : TyN Tryz.prog 64 1 8 (.nilFunc) := tyn_of (by kernel_rfl)
instance : TyA Tryz.prog 65 false := ⟨_, Tryz.underlying65, rfl⟩
instance : TyN Tryz.prog 65 1 8 (.nilFunc) := tyn_of (by kernel_rfl)
instance : TyA Tryz.prog 66 false := ⟨_, Tryz.underlying66, rfl⟩
instance : TyN Tryz.prog 66 1 8 (.nilFunc) := tyn_of (by kernel_rfl)
instance : TyA Tryz.prog 67 false := ⟨_, Tryz.underlying67, rfl⟩
instance : TyN Tryz.prog 67 1 8 (.nilFunc) := tyn_of (by kernel_rfl)
instance : TyA Tryz.prog 68 false := ⟨_, Tryz.underlying68, rfl⟩
instance : TyN Tryz.prog 68 1 8 (.nilFunc) := tyn_of (by kernel_rfl)
instance : TyA Tryz.prog 69 false := ⟨_, Tryz.underlying69, rfl⟩
instance : TyN Tryz.prog 69 1 8 (.nilFunc) := tyn_of (by kernel_rfl)
instance : TyA Tryz.prog 70 true := ⟨_, Tryz.underlying70, rfl⟩
instance : TyN Tryz.prog 70 3 24 (.agg #[.int .i64 0, .int .i64 0, .int .i64 0]) := tyn_of (by kernel_rfl)
instance : TyF Tryz.prog 70 0 0 3 := ⟨_, _, Tryz.underlying70, rfl, rfl, rfl⟩
instance : TyF Tryz.prog 70 1 1 3 := ⟨_, _, Tryz.underlying70, rfl, rfl, rfl⟩
instance : TyF Tryz.prog 70 2 2 3 := ⟨_, _, Tryz.underlying70, rfl, rfl, rfl⟩
instance : EqS Tryz.prog 70 3 := ⟨by kernel_rfl, by kernel_rfl, by kernel_rfl, by kernel_rfl⟩
instance : TyB Tryz.prog 70 [(0, 1), (1, 1), (2, 1)] := ⟨_, Tryz.underlying70, fun w => by kernel_rfl⟩
instance : TyA Tryz.prog 71 false := ⟨_, Tryz.underlying71, rfl⟩
instance : TyN Tryz.prog 71 1 8 (.nilFunc) := tyn_of (by kernel_rfl)
instance : TyA Tryz.prog 72 false := ⟨_, Tryz.underlying72, rfl⟩
instance : TyN Tryz.prog 72 1 8 (.nilFunc) := tyn_of (by kernel_rfl)
instance : TyA Tryz.prog 73 false := ⟨_, Tryz.underlying73, rfl⟩
instance : TyN Tryz.prog 73 1 8 (.nilFunc) := tyn_of (by kernel_rfl)
instance : TyA Tryz.prog 75 false := ⟨_, Tryz.underlying75, rfl⟩
instance : TyN Tryz.prog 75 1 8 (.nilFunc) := tyn_of (by kernel_rfl)
instance : TyA Tryz.prog 76 false := ⟨_, Tryz.underlying76, rfl⟩
instance : TyN Tryz.prog 76 1 8 (.nilFunc) := tyn_of (by kernel_rfl)
instance : TyA Tryz.prog 77 false := ⟨_, Tryz.underlying77, rfl⟩
instance : TyN Tryz.prog 77 1 8 (.nilFunc) := tyn_of (by kernel_rfl)
instance : TyA Tryz.prog 78 false := ⟨_, Tryz.underlying78, rfl⟩
instance : TyN Tryz.prog 78 1 8 (.nilFunc) := tyn_of (by kernel_rfl)
instance : TyA Tryz.prog 79 false := ⟨_, Tryz.underlying79, rfl⟩
instance : TyN Tryz.prog 79 1 8 (.nilFunc) := tyn_of (by kernel_rfl)
instance : TyA Tryz.prog 80 false := ⟨_, Tryz.underlying80, rfl⟩
instance : TyN Tryz.prog 80 1 8 (.nilFunc) := tyn_of (by kernel_rfl)
instance : TyA Tryz.prog 81 false := ⟨_, Tryz.underlying81, rfl⟩
instance : TyN Tryz.prog 81 1 8 (.nilFunc) := tyn_of (by kernel_rfl)
instance : TyD Tryz.prog 82 (.pointer 24) := ⟨Tryz.underlying82⟩
instance : TyA Tryz.prog 82 false := ⟨_, Tryz.underlying82, rfl⟩
instance : TyN Tryz.prog 82 1 8 (.pointer none) := tyn_of (by kernel_rfl)
instance : TyD Tryz.prog 83 (.pointer 105) := ⟨Tryz.underlying83⟩
instance : TyA Tryz.prog 83 false := ⟨_, Tryz.underlying83, rfl⟩
instance : TyN Tryz.prog 83 1 8 (.pointer none) := tyn_of (by kernel_rfl)
instance : TyA Tryz.prog 84 false := ⟨_, Tryz.underlying84, rfl⟩
instance : TyN Tryz.prog 84 1 8 (.nilFunc) := tyn_of (by kernel_rfl)
instance : TyA Tryz.prog 85 false := ⟨_, Tryz.underlying85, rfl⟩
instance : TyN Tryz.prog 85 1 8 (.nilFunc) := tyn_of (by kernel_rfl)
instance : TyD Tryz.prog 86 (.slice 22) := ⟨Tryz.underlying86⟩
instance : TyA Tryz.prog 86 false := ⟨_, Tryz.underlying86, rfl⟩
instance : TyN Tryz.prog 86 1 24 (.slice none 0 0) := tyn_of (by kernel_rfl)
instance : TyD Tryz.prog 87 (.slice 22) := ⟨Tryz.underlying87⟩
instance : TyA Tryz.prog 87 false := ⟨_, Tryz.underlying87, rfl⟩
instance : TyN Tryz.prog 87 1 24 (.slice none 0 0) := tyn_of (by kernel_rfl)
instance : TyA Tryz.prog 88 false := ⟨_, Tryz.underlying88, rfl⟩
instance : TyN Tryz.prog 88 1 8 (.nilFunc) := tyn_of (by kernel_rfl)
instance : TyA Tryz.prog 89 false := ⟨_, Tryz.underlying89, rfl⟩
instance : TyN Tryz.prog 89 1 8 (.nilFunc) := tyn_of (by kernel_rfl)
instance : TyA Tryz.prog 90 false := ⟨_, Tryz.underlying90, rfl⟩
instance : TyN Tryz.prog 90 1 8 (.nilFunc) := tyn_of (by kernel_rfl)
instance : TyA Tryz.prog 91 false := ⟨_, Tryz.underlying91, rfl⟩
instance : TyN Tryz.prog 91 1 8 (.nilFunc) := tyn_of (by kernel_rfl)
instance : TyA Tryz.prog 92 false := ⟨_, Tryz.underlying92, rfl⟩
instance : TyN Tryz.prog 92 1 8 (.nilFunc) := tyn_of (by kernel_rfl)
instance : TyA Tryz.prog 93 false := ⟨_, Tryz.underlying93, rfl⟩
instance : TyN Tryz.prog 93 1 8 (.nilFunc) := tyn_of (by kernel_rfl)
instance : TyA Tryz.prog 94 false := ⟨_, Tryz.underlying94, rfl⟩
instance : TyN Tryz.prog 94 1 8 (.nilFunc) := tyn_of (by kernel_rfl)
instance : TyD Tryz.prog 95 (.slice 32) := ⟨Tryz.underlying95⟩
instance : TyA Tryz.prog 95 false := ⟨_, Tryz.underlying95, rfl⟩
instance : TyN Tryz.prog 95 1 24 (.slice none 0 0) := tyn_of (by kernel_rfl)
instance : TyA Tryz.prog 96 false := ⟨_, Tryz.underlying96, rfl⟩
instance : TyN Tryz.prog 96 1 8 (.nilFunc) := tyn_of (by kernel_rfl)
instance : TyA Tryz.prog 97 false := ⟨_, Tryz.underlying97, rfl⟩
instance : TyN Tryz.prog 97 1 8 (.nilFunc) := tyn_of (by kernel_rfl)
instance : TyA Tryz.prog 98 false := ⟨_, Tryz.underlying98, rfl⟩
instance : TyN Tryz.prog 98 1 8 (.nilFunc) := tyn_of (by kernel_rfl)
instance : TyA Tryz.prog 99 false := ⟨_, Tryz.underlying99, rfl⟩
instance : TyN Tryz.prog 99 1 8 (.nilFunc) := tyn_of (by kernel_rfl)
instance : TyA Tryz.prog 100 false := ⟨_, Tryz.underlying100, rfl⟩
instance : TyN Tryz.prog 100 1 8 (.nilFunc) := tyn_of (by kernel_rfl)
instance : TyA Tryz.prog 101 false := ⟨_, Tryz.underlying101, rfl⟩
instance : TyN Tryz.prog 101 1 8 (.nilFunc) := tyn_of (by kernel_rfl)
instance : TyA Tryz.prog 102 false := ⟨_, Tryz.underlying102, rfl⟩
instance : TyN Tryz.prog 102 1 8 (.nilFunc) := tyn_of (by kernel_rfl)
instance : TyA Tryz.prog 103 false := ⟨_, Tryz.underlying103, rfl⟩
instance : TyN Tryz.prog 103 1 8 (.nilFunc) := tyn_of (by kernel_rfl)
instance : TyA Tryz.prog 104 true := ⟨_, Tryz.underlying104, rfl⟩
instance : TyN Tryz.prog 104 3 72 (.agg #[.slice none 0 0, .slice none 0 0, .slice none 0 0]) := tyn_of (by kernel_rfl)
instance : TyF Tryz.prog 104 0 0 25 := ⟨_, _, Tryz.underlying104, rfl, rfl, rfl⟩
instance : TyF Tryz.prog 104 1 1 25 := ⟨_, _, Tryz.underlying104, rfl, rfl, rfl⟩
instance : TyF Tryz.prog 104 2 2 25 := ⟨_, _, Tryz.underlying104, rfl, rfl, rfl⟩
instance : TyB Tryz.prog 104 [(0, 1), (1, 1), (2, 1)] := ⟨_, Tryz.underlying104, fun w => by kernel_rfl⟩
instance : TyA Tryz.prog 105 true := ⟨_, Tryz.underlying105, rfl⟩
instance : TyN Tryz.prog 105 3 72 (.agg #[.slice none 0 0, .slice none 0 0, .slice none 0 0]) := tyn_of (by kernel_rfl)
instance : TyF Tryz.prog 105 0 0 25 := ⟨_, _, Tryz.underlying105, rfl, rfl, rfl⟩
instance : TyF Tryz.prog 105 1 1 25 := ⟨_, _, Tryz.underlying105, rfl, rfl, rfl⟩
instance : TyF Tryz.prog 105 2 2 25 := ⟨_, _, Tryz.underlying105, rfl, rfl, rfl⟩
instance : TyB Tryz.prog 105 [(0, 1), (1, 1), (2, 1)] := ⟨_, Tryz.underlying105, fun w => by kernel_rfl⟩
instance : TyA Tryz.prog 106 false := ⟨_, Tryz.underlying106, rfl⟩
instance : TyN Tryz.prog 106 1 8 (.nilFunc) := tyn_of (by kernel_rfl)
instance : TyA Tryz.prog 107 false := ⟨_, Tryz.underlying107, rfl⟩
instance : TyN Tryz.prog 107 1 8 (.nilFunc) := tyn_of (by kernel_rfl)
instance : TyD Tryz.prog 108 (.slice 4) := ⟨Tryz.underlying108⟩
instance : TyA Tryz.prog 108 false := ⟨_, Tryz.underlying108, rfl⟩
instance : TyN Tryz.prog 108 1 24 (.slice none 0 0) := tyn_of (by kernel_rfl)
instance : TyA Tryz.prog 110 false := ⟨_, Tryz.underlying110, rfl⟩
instance : TyN Tryz.prog 110 1 8 (.nilFunc) := tyn_of (by kernel_rfl)
instance : TyA Tryz.prog 111 false := ⟨_, Tryz.underlying111, rfl⟩
instance : TyN Tryz.prog 111 1 8 (.nilFunc) := tyn_of (by kernel_rfl)
instance : TyA Tryz.prog 112 false := ⟨_, Tryz.underlying112, rfl⟩
instance : TyN Tryz.prog 112 1 8 (.nilFunc) := tyn_of (by kernel_rfl)
instance : TyA Tryz.prog 113 false := ⟨_, Tryz.underlying113, rfl⟩
instance : TyN Tryz.prog 113 1 8 (.nilFunc) := tyn_of (by kernel_rfl)
instance : TyA Tryz.prog 114 false := ⟨_, Tryz.underlying114, rfl⟩
instance : TyN Tryz.prog 114 1 8 (.nilFunc) := tyn_of (by kernel_rfl)
instance : TyA Tryz.prog 115 false := ⟨_, Tryz.underlying115, rfl⟩
instance : TyN Tryz.prog 115 1 8 (.nilFunc) := tyn_of (by kernel_rfl)
instance : TyD Tryz.prog 116 (.int .u64) := ⟨Tryz.underlying116⟩
instance : TyA Tryz.prog 116 false := ⟨_, Tryz.underlying116, rfl⟩
instance : TyN Tryz.prog 116 1 8 (.int .u64 0) := tyn_of (by kernel_rfl)
instance : TyA Tryz.prog 117 false := ⟨_, Tryz.underlying117, rfl⟩
instance : TyN Tryz.prog 117 1 8 (.nilFunc) := tyn_of (by kernel_rfl)
instance : TyA Tryz.prog 118 false := ⟨_, Tryz.underlying118, rfl⟩
instance : TyN Tryz.prog 118 1 8 (.nilFunc) := tyn_of (by kernel_rfl)
instance : TyA Tryz.prog 119 false := ⟨_, Tryz.underlying119, rfl⟩
instance : TyN Tryz.prog 119 1 8 (.nilFunc) := tyn_of (by kernel_rfl)
instance : TyA Tryz.prog 120 false := ⟨_, Tryz.underlying120, rfl⟩
instance : TyN Tryz.prog 120 1 8 (.nilFunc) := tyn_of (by kernel_rfl)
instance : TyA Tryz.prog 121 false := ⟨_, Tryz.underlying121, rfl⟩
instance : TyN Tryz.prog 121 1 8 (.nilFunc) := tyn_of (by kernel_rfl)
instance : TyA Tryz.prog 122 false := ⟨_, Tryz.underlying122, rfl⟩
instance : TyN Tryz.prog 122 1 8 (.nilFunc) := tyn_of (by kernel_rfl)
instance : TyA Tryz.prog 123 false := ⟨_, Tryz.underlying123, rfl⟩
instance : TyN Tryz.prog 123 1 8 (.nilFunc) := tyn_of (by kernel_rfl)
instance : TyA Tryz.prog 124 false := ⟨_, Tryz.underlying124, rfl⟩
instance : TyN Tryz.prog 124 1 8 (.nilFunc) := tyn_of (by kernel_rfl)
instance : TyD Tryz.prog 125 (.int .i64) := ⟨Tryz.underlying125⟩
instance : TyA Tryz.prog 125 false := ⟨_, Tryz.underlying125, rfl⟩
instance : TyN Tryz.prog 125 1 8 (.int .i64 0) := tyn_of (by kernel_rfl)
instance : TyA Tryz.prog 127 false := ⟨_, Tryz.underlying127, rfl⟩
instance : TyN Tryz.prog 127 1 8 (.nilFunc) := tyn_of (by kernel_rfl)
instance : TyA Tryz.prog 128 false := ⟨_, Tryz.underlying128, rfl⟩
instance : TyN Tryz.prog 128 1 8 (.nilFunc) := tyn_of (by kernel_rfl)
instance : TyA Tryz.prog 129 false := ⟨_, Tryz.underlying129, rfl⟩
instance : TyN Tryz.prog 129 1 8 (.nilFunc) := tyn_of (by kernel_rfl)
instance : TyA Tryz.prog 130 false := ⟨_, Tryz.underlying130, rfl⟩
instance : TyN Tryz.prog 130 1 8 (.nilFunc) := tyn_of (by kernel_rfl)
instance : TyA Tryz.prog 131 false := ⟨_, Tryz.underlying131, rfl⟩
instance : TyN Tryz.prog 131 1 8 (.nilFunc) := tyn_of (by kernel_rfl)
instance : TyD Tryz.prog 132 (.int .u32) := ⟨Tryz.underlying132⟩
instance : TyA Tryz.prog 132 false := ⟨_, Tryz.underlying132, rfl⟩
instance : TyN Tryz.prog 132 1 4 (.int .u32 0) := tyn_of (by kernel_rfl)
instance : TyA Tryz.prog 133 false := ⟨_, Tryz.underlying133, rfl⟩
instance : TyN Tryz.prog 133 1 8 (.nilFunc) := tyn_of (by kernel_rfl)
instance : TyD Tryz.prog 134 (.int .u64) := ⟨Tryz.underlying134⟩
instance : TyA Tryz.prog 134 false := ⟨_, Tryz.underlying134, rfl⟩
instance : TyN Tryz.prog 134 1 8 (.int .u64 0) := tyn_of (by kernel_rfl)
instance : TyA Tryz.prog 135 false := ⟨_, Tryz.underlying135, rfl⟩
instance : TyN Tryz.prog 135 1 8 (.nilFunc) := tyn_of (by kernel_rfl)
instance : TyA Tryz.prog 136 false := ⟨_, Tryz.underlying136, rfl⟩
instance : TyN Tryz.prog 136 1 8 (.nilFunc) := tyn_of (by kernel_rfl)
instance : TyD Tryz.prog 137 (.int .u64) := ⟨Tryz.underlying137⟩
instance : TyA Tryz.prog 137 false := ⟨_, Tryz.underlying137, rfl⟩
instance : TyN Tryz.prog 137 1 8 (.int .u64 0) := tyn_of (by kernel_rfl)
instance : TyA Tryz.prog 138 false := ⟨_, Tryz.underlying138, rfl⟩
instance : TyN Tryz.prog 138 1 8 (.nilFunc) := tyn_of (by kernel_rfl)
instance : TyA Tryz.prog 139 false := ⟨_, Tryz.underlying139, rfl⟩
instance : TyN Tryz.prog 139 1 8 (.nilFunc) := tyn_of (by kernel_rfl)
instance : TyA Tryz.prog 140 false := ⟨_, Tryz.underlying140, rfl⟩
instance : TyN Tryz.prog 140 1 8 (.nilFunc) := tyn_of (by kernel_rfl)
instance : TyD Tryz.prog 141 (.pointer 3) := ⟨Tryz.underlying141⟩
instance : TyA Tryz.prog 141 false := ⟨_, Tryz.underlying141, rfl⟩
instance : TyN Tryz.prog 141 1 8 (.pointer none) := tyn_of (by kernel_rfl)
instance : TyA Tryz.prog 142 false := ⟨_, Tryz.underlying142, rfl⟩
instance : TyN Tryz.prog 142 1 8 (.nilFunc) := tyn_of (by kernel_rfl)
instance : TyA Tryz.prog 143 false := ⟨_, Tryz.underlying143, rfl⟩
instance : TyN Tryz.prog 143 1 8 (.nilFunc) := tyn_of (by kernel_rfl)
instance : TyA Tryz.prog 144 false := ⟨_, Tryz.underlying144, rfl⟩
instance : TyN Tryz.prog 144 1 8 (.nilFunc) := tyn_of (by kernel_rfl)
instance : TyA Tryz.prog 145 false := ⟨_, Tryz.underlying145, rfl⟩
instance : TyN Tryz.prog 145 1 8 (.nilFunc) := tyn_of (by kernel_rfl)
instance : TyA Tryz.prog 146 false := ⟨_, Tryz.underlying146, rfl⟩
instance : TyN Tryz.prog 146 1 8 (.nilFunc) := tyn_of (by kernel_rfl)
instance : TyA Tryz.prog 147 false := ⟨_, Tryz.underlying147, rfl⟩
instance : TyN Tryz.prog 147 1 8 (.nilFunc) := tyn_of (by kernel_rfl)
instance : TyD Tryz.prog 148 (.pointer 137) := ⟨Tryz.underlying148⟩
instance : TyA Tryz.prog 148 false := ⟨_, Tryz.underlying148, rfl⟩
instance : TyN Tryz.prog 148 1 8 (.pointer none) := tyn_of (by kernel_rfl)
instance : TyA Tryz.prog 150 false := ⟨_, Tryz.underlying150, rfl⟩
instance : TyN Tryz.prog 150 1 8 (.nilFunc) := tyn_of (by kernel_rfl)
instance : TyA Tryz.prog 151 false := ⟨_, Tryz.underlying151, rfl⟩
instance : TyN Tryz.prog 151 1 8 (.nilFunc) := tyn_of (by kernel_rfl)
instance : TyA Tryz.prog 152 false := ⟨_, Tryz.underlying152, rfl⟩
instance : TyN Tryz.prog 152 1 8 (.nilFunc) := tyn_of (by kernel_rfl)
instance : TyA Tryz.prog 153 false := ⟨_, Tryz.underlying153, rfl⟩
instance : TyN Tryz.prog 153 1 8 (.nilFunc) := tyn_of (by kernel_rfl)
instance : TyA Tryz.prog 154 false := ⟨_, Tryz.underlying154, rfl⟩
instance : TyN Tryz.prog 154 1 8 (.nilFunc) := tyn_of (by kernel_rfl)
instance : TyA Tryz.prog 162 false := ⟨_, Tryz.underlying162, rfl⟩
instance : TyN Tryz.prog 162 1 8 (.nilFunc) := tyn_of (by kernel_rfl)
instance : TyD Tryz.prog 163 (.pointer 5) := ⟨Tryz.underlying163⟩
instance : TyA Tryz.prog 163 false := ⟨_, Tryz.underlying163, rfl⟩
instance : TyN Tryz.prog 163 1 8 (.pointer none) := tyn_of (by kernel_rfl)
instance : FnB Tryz.prog 2 := ⟨_, Tryz.func2, by decide +kernel, rfl⟩
instance : FnB Tryz.prog 3 := ⟨_, Tryz.func3, by decide +kernel, rfl⟩
instance : FnB Tryz.prog 4 := ⟨_, Tryz.func4, by decide +kernel, rfl⟩
instance : FnB Tryz.prog 5 := ⟨_, Tryz.func5, by decide +kernel, rfl⟩
instance : FnB Tryz.prog 6 := ⟨_, Tryz.func6, by decide +kernel, rfl⟩
instance : FnB Tryz.prog 7 := ⟨_, Tryz.func7, by decide +kernel, rfl⟩
instance : FnB Tryz.prog 8 := ⟨_, Tryz.func8, by decide +kernel, rfl⟩
instance : FnB Tryz.prog 9 := ⟨_, Tryz.func9, by decide +kernel, rfl⟩
instance : FnB Tryz.prog 10 := ⟨_, Tryz.func10, by decide +kernel, rfl⟩
instance : FnB Tryz.prog 11 := ⟨_, Tryz.func11, by decide +kernel, rfl⟩
instance : FnB Tryz.prog 12 := ⟨_, Tryz.func12, by decide +kernel, rfl⟩
instance : FnB Tryz.prog 13 := ⟨_, Tryz.func13, by decide +kernel, rfl⟩
instance : FnB Tryz.prog 14 := ⟨_, Tryz.func14, by decide +kernel, rfl⟩
instance : FnB Tryz.prog 15 := ⟨_, Tryz.func15, by decide +kernel, rfl⟩
instance : FnB Tryz.prog 16 := ⟨_, Tryz.func16, by decide +kernel, rfl⟩
instance : FnB Tryz.prog 17 := ⟨_, Tryz.func17, by decide +kernel, rfl⟩
instance : FnB Tryz.prog 18 := ⟨_, Tryz.func18, by decide +kernel, rfl⟩
instance : FnB Tryz.prog 19 := ⟨_, Tryz.func19, by decide +kernel, rfl⟩
instance : FnB Tryz.prog 20 := ⟨_, Tryz.func20, by decide +kernel, rfl⟩
instance : FnB Tryz.prog 21 := ⟨_, Tryz.func21, by decide +kernel, rfl⟩
instance : FnB Tryz.prog 22 := ⟨_, Tryz.func22, by decide +kernel, rfl⟩
instance : FnB Tryz.prog 23 := ⟨_, Tryz.func23, by decide +kernel, rfl⟩
instance : FnB Tryz.prog 24 := ⟨_, Tryz.func24, by decide +kernel, rfl⟩
instance : FnB Tryz.prog 25 := ⟨_, Tryz.func25, by decide +kernel, rfl⟩
instance : FnB Tryz.prog 26 := ⟨_, Tryz.func26, by decide +kernel, rfl⟩
instance : FnB Tryz.prog 27 := ⟨_, Tryz.func27, by decide +kernel, rfl⟩
instance : FnB Tryz.prog 28 := ⟨_, Tryz.func28, by decide +kernel, rfl⟩
instance : FnB Tryz.prog 29 := ⟨_, Tryz.func29, by decide +kernel, rfl⟩
instance : FnB Tryz.prog 30 := ⟨_, Tryz.func30, by decide +kernel, rfl⟩
instance : FnB Tryz.prog 31 := ⟨_, Tryz.func31, by decide +kernel, rfl⟩
instance : FnB Tryz.prog 32 := ⟨_, Tryz.func32, by decide +kernel, rfl⟩
instance : FnB Tryz.prog 33 := ⟨_, Tryz.func33, by decide +kernel, rfl⟩
instance : FnB Tryz.prog 34 := ⟨_, Tryz.func34, by decide +kernel, rfl⟩
instance : FnB Tryz.prog 35 := ⟨_, Tryz.func35, by decide +kernel, rfl⟩
instance : FnB Tryz.prog 36 := ⟨_, Tryz.func36, by decide +kernel, rfl⟩
instance : FnB Tryz.prog 37 := ⟨_, Tryz.func37, by decide +kernel, rfl⟩
instance : FnB Tryz.prog 38 := ⟨_, Tryz.func38, by decide +kernel, rfl⟩
instance : FnB Tryz.prog 39 := ⟨_, Tryz.func39, by decide +kernel, rfl⟩
instance : FnB Tryz.prog 40 := ⟨_, Tryz.func40, by decide +kernel, rfl⟩
instance : FnB Tryz.prog 41 := ⟨_, Tryz.func41, by decide +kernel, rfl⟩
instance : FnB Tryz.prog 42 := ⟨_, Tryz.func42, by decide +kernel, rfl⟩
instance : FnB Tryz.prog 43 := ⟨_, Tryz.func43, by decide +kernel, rfl⟩
instance : FnB Tryz.prog 44 := ⟨_, Tryz.func44, by decide +kernel, rfl⟩
instance : FnB Tryz.prog 45 := ⟨_, Tryz.func45, by decide +kernel, rfl⟩
instance : FnB Tryz.prog 46 := ⟨_, Tryz.func46, by decide +kernel, rfl⟩
instance : FnB Tryz.prog 47 := ⟨_, Tryz.func47, by decide +kernel, rfl⟩
instance : FnB Tryz.prog 48 := ⟨_, Tryz.func48, by decide +kernel, rfl⟩
instance : FnB Tryz.prog 49 := ⟨_, Tryz.func49, by decide +kernel, rfl⟩
instance : FnB Tryz.prog 50 := ⟨_, Tryz.func50, by decide +kernel, rfl⟩
instance : FnB Tryz.prog 51 := ⟨_, Tryz.func51, by decide +kernel, rfl⟩
instance : FnB Tryz.prog 52 := ⟨_, Tryz.func52, by decide +kernel, rfl⟩
instance : FnB Tryz.prog 53 := ⟨_, Tryz.func53, by decide +kernel, rfl⟩
instance : FnB Tryz.prog 54 := ⟨_, Tryz.func54, by decide +kernel, rfl⟩
instance : FnB Tryz.prog 55 := ⟨_, Tryz.func55, by decide +kernel, rfl⟩
instance : FnB Tryz.prog 56 := ⟨_, Tryz.func56, by decide +kernel, rfl⟩
instance : FnB Tryz.prog 57 := ⟨_, Tryz.func57, by decide +kernel, rfl⟩
instance : FnB Tryz.prog 58 := ⟨_, Tryz.func58, by decide +kernel, rfl⟩
instance : FnB Tryz.prog 59 := ⟨_, Tryz.func59, by decide +kernel, rfl⟩
instance : FnB Tryz.prog 60 := ⟨_, Tryz.func60, by decide +kernel, rfl⟩
instance : FnB Tryz.prog 61 := ⟨_, Tryz.func61, by decide +kernel, rfl⟩
instance : FnB Tryz.prog 62 := ⟨_, Tryz.func62, by decide +kernel, rfl⟩
instance : FnB Tryz.prog 63 := ⟨_, Tryz.func63, by decide +kernel, rfl⟩
instance : FnB Tryz.prog 64 := ⟨_, Tryz.func64, by decide +kernel, rfl⟩
instance : FnB Tryz.prog 65 := ⟨_, Tryz.func65, by decide +kernel, rfl⟩
instance : FnB Tryz.prog 66 := ⟨_, Tryz.func66, by decide +kernel, rfl⟩
instance : FnB Tryz.prog 67 := ⟨_, Tryz.func67, by decide +kernel, rfl⟩
instance : FnB Tryz.prog 68 := ⟨_, Tryz.func68, by decide +kernel, rfl⟩
instance : FnB Tryz.prog 69 := ⟨_, Tryz.func69, by decide +kernel, rfl⟩
instance : FnB Tryz.prog 70 := ⟨_, Tryz.func70, by decide +kernel, rfl⟩
instance : FnB Tryz.prog 71 := ⟨_, Tryz.func71, by decide +kernel, rfl⟩
instance : FnB Tryz.prog 72 := ⟨_, Tryz.func72, by decide +kernel, rfl⟩
instance : FnB Tryz.prog 73 := ⟨_, Tryz.func73, by decide +kernel, rfl⟩
instance : FnB Tryz.prog 74 := ⟨_, Tryz.func74, by decide +kernel, rfl⟩
instance : FnB Tryz.prog 75 := ⟨_, Tryz.func75, by decide +kernel, rfl⟩
instance : FnB Tryz.prog 76 := ⟨_, Tryz.func76, by decide +kernel, rfl⟩
instance : FnB Tryz.prog 77 := ⟨_, Tryz.func77, by decide +kernel, rfl⟩
instance : FnB Tryz.prog 78 := ⟨_, Tryz.func78, by decide +kernel, rfl⟩
instance : FnB Tryz.prog 79 := ⟨_, Tryz.func79, by decide +kernel, rfl⟩
instance : FnB Tryz.prog 80 := ⟨_, Tryz.func80, by decide +kernel, rfl⟩
instance : FnB Tryz.prog 81 := ⟨_, Tryz.func81, by decide +kernel, rfl⟩
instance : FnB Tryz.prog 82 := ⟨_, Tryz.func82, by decide +kernel, rfl⟩
instance : FnB Tryz.prog 83 := ⟨_, Tryz.func83, by decide +kernel, rfl⟩
instance : FnB Tryz.prog 84 := ⟨_, Tryz.func84, by decide +kernel, rfl⟩
instance : FnB Tryz.prog 85 := ⟨_, Tryz.func85, by decide +kernel, rfl⟩
instance : FnB Tryz.prog 86 := ⟨_, Tryz.func86, by decide +kernel, rfl⟩
instance : FnB Tryz.prog 87 := ⟨_, Tryz.func87, by decide +kernel, rfl⟩
instance : FnB Tryz.prog 88 := ⟨_, Tryz.func88, by decide +kernel, rfl⟩
instance : FnB Tryz.prog 89 := ⟨_, Tryz.func89, by decide +kernel, rfl⟩
instance : FnB Tryz.prog 90 := ⟨_, Tryz.func90, by decide +kernel, rfl⟩
instance : FnB Tryz.prog 91 := ⟨_, Tryz.func91, by decide +kernel, rfl⟩
instance : FnB Tryz.prog 92 := ⟨_, Tryz.func92, by decide +kernel, rfl⟩
instance : FnB Tryz.prog 93 := ⟨_, Tryz.func93, by decide +kernel, rfl⟩
instance : FnB Tryz.prog 95 := ⟨_, Tryz.func95, by decide +kernel, rfl⟩
instance : FnB Tryz.prog 96 := ⟨_, Tryz.func96, by decide +kernel, rfl⟩
instance : FnB Tryz.prog 97 := ⟨_, Tryz.func97, by decide +kernel, rfl⟩
instance : FnB Tryz.prog 98 := ⟨_, Tryz.func98, by decide +kernel, rfl⟩
instance : FnB Tryz.prog 99 := ⟨_, Tryz.func99, by decide +kernel, rfl⟩
instance : FnB Tryz.prog 100 := ⟨_, Tryz.func100, by decide +kernel, rfl⟩
instance : FnB Tryz.prog 101 := ⟨_, Tryz.func101, by decide +kernel, rfl⟩
instance : FnB Tryz.prog 102 := ⟨_, Tryz.func102, by decide +kernel, rfl⟩
instance : FnB Tryz.prog 103 := ⟨_, Tryz.func103, by decide +kernel, rfl⟩
instance : FnB Tryz.prog 104 := ⟨_, Tryz.func104, by decide +kernel, rfl⟩
instance : FnB Tryz.prog 105 := ⟨_, Tryz.func105, by decide +kernel, rfl⟩
instance : FnB Tryz.prog 106 := ⟨_, Tryz.func106, by decide +kernel, rfl⟩
instance : FnB Tryz.prog 107 := ⟨_, Tryz.func107, by decide +kernel, rfl⟩
instance : FnB Tryz.prog 108 := ⟨_, Tryz.func108, by decide +kernel, rfl⟩
instance : FnB Tryz.prog 109 := ⟨_, Tryz.func109, by decide +kernel, rfl⟩
instance : FnB Tryz.prog 110 := ⟨_, Tryz.func110, by decide +kernel, rfl⟩
instance : FnB Tryz.prog 111 := ⟨_, Tryz.func111, by decide +kernel, rfl⟩
instance : FnB Tryz.prog 112 := ⟨_, Tryz.func112, by decide +kernel, rfl⟩
instance : FnB Tryz.prog 113 := ⟨_, Tryz.func113, by decide +kernel, rfl⟩
instance : FnB Tryz.prog 115 := ⟨_, Tryz.func115, by decide +kernel, rfl⟩
instance : FnB Tryz.prog 116 := ⟨_, Tryz.func116, by decide +kernel, rfl⟩
instance : FnB Tryz.prog 117 := ⟨_, Tryz.func117, by decide +kernel, rfl⟩
instance : FnB Tryz.prog 118 := ⟨_, Tryz.func118, by decide +kernel, rfl⟩
instance : FnB Tryz.prog 119 := ⟨_, Tryz.func119, by decide +kernel, rfl⟩
instance : FnB Tryz.prog 120 := ⟨_, Tryz.func120, by decide +kernel, rfl⟩
instance : FnB Tryz.prog 121 := ⟨_, Tryz.func121, by decide +kernel, rfl⟩
instance : FnB Tryz.prog 122 := ⟨_, Tryz.func122, by decide +kernel, rfl⟩
instance : FnB Tryz.prog 123 := ⟨_, Tryz.func123, by decide +kernel, rfl⟩
instance : FnB Tryz.prog 124 := ⟨_, Tryz.func124, by decide +kernel, rfl⟩
instance : FnB Tryz.prog 125 := ⟨_, Tryz.func125, by decide +kernel, rfl⟩
instance : FnB Tryz.prog 126 := ⟨_, Tryz.func126, by decide +kernel, rfl⟩
instance : FnB Tryz.prog 127 := ⟨_, Tryz.func127, by decide +kernel, rfl⟩
instance : FnB Tryz.prog 128 := ⟨_, Tryz.func128, by decide +kernel, rfl⟩
instance : FnB Tryz.prog 129 := ⟨_, Tryz.func129, by decide +kernel, rfl⟩
instance : FnB Tryz.prog 130 := ⟨_, Tryz.func130, by decide +kernel, rfl⟩
instance : FnB Tryz.prog 131 := ⟨_, Tryz.func131, by decide +kernel, rfl⟩
instance : FnB Tryz.prog 132 := ⟨_, Tryz.func132, by decide +kernel, rfl⟩
instance : FnB Tryz.prog 133 := ⟨_, Tryz.func133, by decide +kernel, rfl⟩
instance : FnB Tryz.prog 134 := ⟨_, Tryz.func134, by decide +kernel, rfl⟩
instance : FnB Tryz.prog 135 := ⟨_, Tryz.func135, by decide +kernel, rfl⟩
instance : FnB Tryz.prog 136 := ⟨_, Tryz.func136, by decide +kernel, rfl⟩
instance : FnB Tryz.prog 137 := ⟨_, Tryz.func137, by decide +kernel, rfl⟩
instance : FnB Tryz.prog 138 := ⟨_, Tryz.func138, by decide +kernel, rfl⟩
instance : FnB Tryz.prog 139 := ⟨_, Tryz.func139, by decide +kernel, rfl⟩
instance : FnOv Tryz.prog 94 22 := ⟨_, 4, Tryz.func94, by decide +kernel, rfl, by kernel_rfl, by kernel_rfl⟩
instance : FnOv Tryz.prog 114 25 := ⟨_, 4, Tryz.func114, by decide +kernel, rfl, by kernel_rfl, by kernel_rfl⟩
end Go.Proofs.YtcillieggklaaaaGreat
/- Graphs, their edges, and what the functions on them compute. No program in sight. -/
namespace Go.Pl
open Go.RT
set_option linter.all false
def cmpI (a b : Int) : Int := if a < b then -1 else if a > b then 1 else 0
instance (k : IntKind) (n : Int) : Decidable (inr k n) := by cases k <;> unfold inr <;> infer_instance
structure Edg where
 f : Int
 t : Int
 c : Int
 deriving DecidableEq
structure Gr where
 r : Int
 n : Int
 es : List Edg
 deriving DecidableEq
def encE (e : Edg) : List FV := [If .i64 e.f, If .i64 e.t, If .i64 e.c]
abbrev VE (l : List Edg) : FV := .vals 3 (l.map encE)
def encG (g : Gr) : List FV := [If .i64 g.r, If .i64 g.n, VE g.es]
def encN (x : Int) : List FV := [If .i64 x]
abbrev VI (l : List Int) : FV := .vals 1 (l.map encN)
def encB (x : Bool) : List FV := [Bf x]
def okE (e : Edg) : Prop := inr .i64 e.f ∧ inr .i64 e.t ∧ inr .i64 e.c
def okEs (l : List Edg) : Prop := ∀ e ∈ l, okE e
def okG (g : Gr) : Prop := inr .i64 g.r ∧ inr .i64 g.n ∧ okEs g.es
theorem eqFs_encE (a b : Edg) : eqFs (encE a) (encE b) = decide (a = b) := by
 cases a; cases b
 simp [encE, eqFs, Bool.decide_and, and_assoc]
def ordE (a b : Edg) : Int := if cmpI a.f b.f ≠ 0 then cmpI a.f b.f else cmpI a.t b.t
def befB (a b : Edg) : Bool := decide (a.f < b.f) || decide (a.f = b.f) && decide (a.t < b.t)
theorem ordE_ge (a b : Edg) : decide (0 ≤ ordE a b) = !befB a b := by
 rw [Bool.eq_iff_iff]
 unfold ordE cmpI befB
 simp only [decide_eq_true_eq, Bool.not_eq_true', Bool.or_eq_false_iff, decide_eq_false_iff_not, Bool.and_eq_false_iff]
 by_cases h1 : a.f < b.f
 ·simp [h1]
 by_cases h2 : a.f > b.f
 ·have : ¬ a.f = b.f := by omega
  simp [h1, h2, this]
 have : a.f = b.f := by omega
 simp [this]
 by_cases h3 : a.t < b.t
 ·simp [h3]
 by_cases h4 : a.t > b.t <;> simp [h3, h4] <;> omega
def szOk (g : Gr) : Prop := 0 ≤ g.r ∧ 0 ≤ g.n ∧ g.r + g.n ≤ 128
def sizeI (g : Gr) : Int := if g.r < 0 ∨ g.n < 0 then 5 else if g.r > 128 ∨ g.n > 128 ∨ g.r + g.n > 128 ∨ 1024 < g.es.length then 4 else 0
def nodeB (g : Gr) (x : Int) : Bool := decide (0 ≤ x) && decide (x < g.r + g.n)
def alwI (g : Gr) (e : Edg) : Int := if nodeB g e.f = false ∨ nodeB g e.t = false then 5 else
 if e.f = e.t ∨ (g.r ≤ e.f ∧ g.r ≤ e.t) ∨ (g.r ≤ e.f ∧ e.c ≠ 0) ∨ (e.f < g.r ∧ (e.c < 1 ∨ 65535 < e.c)) then 1 else 0
theorem sizeI_ok {g : Gr} (h : sizeI g = 0) : szOk g ∧ g.es.length ≤ 1024 := by
 unfold sizeI at h
 by_cases h1 : g.r < 0 ∨ g.n < 0
 ·rw [if_pos h1] at h; cases h
 rw [if_neg h1] at h
 by_cases h2 : g.r > 128 ∨ g.n > 128 ∨ g.r + g.n > 128 ∨ 1024 < g.es.length
 ·rw [if_pos h2] at h; cases h
 exact ⟨⟨by omega, by omega, by omega⟩, by omega⟩
def badP : Option Edg → Edg → Bool
 | some q, e => !befB q e
 | none, _ => false
def chkL (g : Gr) : Option Edg → List Edg → Int
 | _, [] => 0
 | p, e :: l => if alwI g e ≠ 0 then alwI g e else if badP p e = true then 16 else chkL g (some e) l
def checkI (g : Gr) : Int := if sizeI g ≠ 0 then sizeI g else chkL g none g.es
def prevO (l : List Edg) (i : Nat) : Option Edg := if i = 0 then none else l[i - 1]?
theorem prevO_succ {l : List Edg} {i : Nat} (h : i < l.length) : prevO l (i + 1) = some l[i] := by simp [prevO, h]
/-- one round of the check -/
theorem chk_step {g : Gr} {l : List Edg} {i : Nat} (h : i < l.length) : chkL g (prevO l i) (l.drop i) = if alwI g l[i] ≠ 0 then alwI g l[i] else if badP (prevO l i) l[i] = true then 16 else chkL g (prevO l (i + 1)) (l.drop (i + 1)) := by
 rw [List.drop_eq_getElem_cons h, prevO_succ h]; rfl
theorem row_at' {α : Type} (f : α → List FV) (l : List α) (i : Nat) (h : i < l.length) : (l.map f)[i]? = some (f l[i]) := by simp [h]
theorem take_len_eq' {α : Type} {l : List α} {i : Nat} (h : i = l.length) : l.take i = l := by subst h; exact List.take_length
end Go.Pl
namespace Go.Pl
def orI : List Int → Int
  | [] => 0
  | x :: l => if x ≠ 0 then x else orI l
end Go.Pl
namespace Go.Proofs.YtcillieggklaaaaGreat
open Go Go.RT Go.Proofs Go.Pl
set_option linter.all false
set_option maxRecDepth 20000
set_option maxHeartbeats 4000000
theorem wHX1a {α : Prop} (h : α := by repeat (first | exact trivial | refine ⟨⟨_, rfl, .inl ⟨rfl, rfl⟩⟩, ?_⟩)) : α := h
theorem wHX1b {α : Prop} (h : α := by repeat (first | exact trivial | refine ⟨wS, ?_⟩ | refine ⟨ent_same rfl rfl (rfEq rfl tU) tL, ?_⟩ | refine ⟨ent_same rfl rfl (flEq rfl (by first | (simp; done) | (simp; omega) | (simp [encP]; done) | simp [maxC, minC])) trivial, ?_⟩)) : α := h
theorem nan_c (a : Int) : Pure Tryz.prog 68 [If .i64 a] (Bf false) := by
 rw [show (false) = decide (a ≠ a) by simp]
 refine Meets.intro Tryz.func68 rfl (Nat.le_of_ble_eq_true rfl) fun C hC => ?_
 simp only [List.map, argEnv, Nat.reduceAdd]
 refine nK ?_
 refine zb ?_
 refine ze ?_
 refine zc ?_
 refine nK ?_
 refine zb ?_
 refine za ?_
 refine za ?_
 refine zbg ?_
 refine zd ?_
 refine zc ?_
 refine nK ?_
 exact wO hC
theorem cmp_c (a b : Int) : Pure Tryz.prog 48 [If .i64 a, If .i64 b] (If .i64 (cmpI a b)) := by
 refine Meets.intro Tryz.func48 rfl (Nat.le_of_ble_eq_true rfl) fun C hC => ?_
 simp only [List.map, argEnv, Nat.reduceAdd]
 refine nK ?_
 refine zb ?_
 refine ze ?_
 refine zc ?_
 refine nK ?_
 refine zb ?_
 refine za ?_
 refine rpZ 8 rfl (op_call_pure (fun _ => nan_c _) rfl (Opd.func _) (oS (oT rfl) Opds.nil)) ?_
 refine zd ?_
 refine zc ?_
 refine nK ?_
 refine zb ?_
 refine za ?_
 refine rpZ 10 rfl (op_call_pure (fun _ => nan_c _) rfl (Opd.func _) (oS (oT rfl) Opds.nil)) ?_
 refine zd ?_
 refine zc ?_
 refine nK ?_
 refine zb ?_
 refine za ?_
 refine zc ?_
 refine nK ?_
 refine n_cond _ rfl (fun hb => ?_) (fun hb => ?_)
 ·cases hb
 refine nK ?_
 refine zb ?_
 refine za ?_
 refine zc ?_
 refine nK ?_
 refine n_cond _ rfl (fun hb => ?_) (fun hb => ?_)
 ·cases hb
 unfold cmpI
 refine nK ?_
 refine zb ?_
 refine za ?_
 refine za ?_
 refine zp ?_
 refine zc ?_
 refine nK ?_
 refine n_cond _ rfl (fun hb => ?_) (fun hb => ?_)
 ·rw [if_pos (by simpa using hb)]
  refine nK ?_
  refine zb ?_
  refine ze ?_
  refine zc ?_
  refine nK ?_
  exact wO hC
 rw [if_neg (by simpa using hb)]
 refine nK ?_
 refine zb ?_
 refine za ?_
 refine za ?_
 refine zcn ?_
 refine zc ?_
 refine nK ?_
 refine n_cond _ rfl (fun hb => ?_) (fun hb => ?_)
 ·rw [if_pos (by simpa using hb)]
  refine nK ?_
  refine zb ?_
  refine ze ?_
  refine zc ?_
  refine nK ?_
  exact wO hC
 rw [if_neg (by simpa using hb)]
 refine nK ?_
 refine zb ?_
 refine ze ?_
 refine zc ?_
 refine nK ?_
 exact wO hC
theorem or_c (l : List Int) (hn : l.length ≤ 1000000) : Pure Tryz.prog 47 [VI l] (If .i64 (orI l)) := by
 refine Meets.intro Tryz.func47 rfl (Nat.le_of_ble_eq_true rfl) fun C hC => ?_
 simp only [List.map, argEnv, Nat.reduceAdd]
 refine nK ?_
 refine zb ?_
 refine ze ?_
 refine zc ?_
 refine nK ?_
 refine zb ?_
 refine ze ?_
 refine zc ?_
 refine nK ?_
 refine zb ?_
 refine za ?_
 refine zo ?_
 refine zbb ?_
 refine zc ?_
 refine nK ?_
 refine n_loop (ι := Nat) (fun i => ([(3, IV .i64 0), (6, .fz (VI l)), (7, IV .i64 l.length), (8, IV .i64 i)], [], 0)) (fun i => i ≤ l.length ∧ orI (l.drop i) = orI l) (fun i => l.length - i) 0 ⟨Nat.zero_le _, rfl⟩ ?_ ?_
 ·refine Next.weak [] [] (by rfl) (keeps0 hC _) wHX1a wHX1b wN rel_intro
 intro i ⟨hi, ho⟩ K hK
 refine nK ?_
 refine zb ?_
 refine zp ?_
 refine zc ?_
 refine nK ?_
 refine n_cond _ rfl (fun hb => ?_) (fun hb => ?_)
 ·have hlt : i < l.length := by simp at hb; omega
  have hr1 := row_at' encN l i hlt
  rw [List.drop_eq_getElem_cons hlt] at ho
  simp only [orI] at ho
  have hK1 := fun h => hK (i + 1) ⟨by omega, h⟩ (by omega)
  generalize l[i] = x at *
  refine nK ?_
  refine zb ?_
  refine zz ?_
  refine zj ?_
  refine zd ?_
  refine zc ?_
  refine nK ?_
  refine zb ?_
  refine za ?_
  refine za ?_
  refine zbg ?_
  refine zc ?_
  refine nK ?_
  refine n_cond _ rfl (fun hb => ?_) (fun hb => ?_)
  ·rw [if_pos (by simpa using hb)] at ho
   rw [← ho]
   refine nK ?_
   refine zb ?_
   refine za ?_
   refine zd ?_
   refine zc ?_
   refine nK ?_
   exact wO hC
  rw [if_neg (by simpa using hb)] at ho
  refine nK ?_
  refine zb ?_
  refine zl ?_
  refine za ?_
  refine zc ?_
  refine nK ?_
  refine Next.weak [] [] (by rfl) (keeps0 hC _) wHX1a wHX1b wN (hK1 ho)
 have hie : i = l.length := by simp at hb; omega
 rw [hie, List.drop_length] at ho
 rw [← ho]
 refine nK ?_
 refine zb ?_
 refine za ?_
 refine zd ?_
 refine zc ?_
 refine nK ?_
 exact wO hC
theorem order_c (a b : Edg) : Pure Tryz.prog 51 [.agg (encE a), .agg (encE b)] (If .i64 (ordE a b)) := by
 have e : ordE a b = orI [cmpI a.f b.f, cmpI a.t b.t] := by
  unfold ordE orI
  simp only [orI]
  by_cases h : cmpI a.f b.f = 0
  ·by_cases h2 : cmpI a.t b.t = 0 <;> simp [h, h2]
  simp [h]
 have ho := or_c [cmpI a.f b.f, cmpI a.t b.t] (by simp)
 rw [← e] at ho
 refine Meets.intro Tryz.func51 rfl (Nat.le_of_ble_eq_true rfl) fun C hC => ?_
 simp only [List.map, argEnv, Nat.reduceAdd]
 refine nK ?_
 refine zb ?_
 refine zq ?_
 refine zq ?_
 refine ze ?_
 refine zc ?_
 refine nK ?_
 refine s_draw mixed ?_
 refine zg ?_
 refine zh ?_
 refine zg ?_
 refine zh ?_
 refine rpZ 9 rfl (op_call_pure (fun _ => cmp_c _ _) rfl (Opd.func _) (oS (oT rfl) (oS (oT rfl) Opds.nil))) ?_
 refine zg ?_
 refine zh ?_
 refine zg ?_
 refine zh ?_
 refine rpZ 14 rfl (op_call_pure (fun _ => cmp_c _ _) rfl (Opd.func _) (oS (oT rfl) (oS (oT rfl) Opds.nil))) ?_
 refine zcs ?_
 refine rpZ 16 rfl (op_call_pure (fun _ => ho) rfl (Opd.func _) (oS (oT rfl) Opds.nil)) ?_
 refine zd ?_
 refine zs ?_
 refine nK ?_
 exact wO hC
theorem before_c (a b : Edg) : Pure Tryz.prog 67 [.agg (encE a), .agg (encE b)] (Bf (befB a b)) := by
 refine Meets.intro Tryz.func67 rfl (Nat.le_of_ble_eq_true rfl) fun C hC => ?_
 simp only [List.map, argEnv, Nat.reduceAdd]
 refine nK ?_
 refine zb ?_
 refine zq ?_
 refine zq ?_
 refine ze ?_
 refine zc ?_
 refine nK ?_
 refine zb ?_
 refine zg ?_
 refine zh ?_
 refine zg ?_
 refine zh ?_
 refine zp ?_
 refine za ?_
 refine zn ?_
 refine zm ?_
 refine zn ?_
 refine zm ?_
 refine zbo ?_
 refine zbp ?_
 refine zn ?_
 refine zm ?_
 refine zn ?_
 refine zm ?_
 refine zbk ?_
 refine zcf ?_
 refine zv ?_
 refine zd ?_
 refine zc ?_
 refine nK ?_
 exact wO hC
theorem size_c (g : Gr) (hg : okG g) : Pure Tryz.prog 49 [.agg (encG g)] (If .i64 (sizeI g)) := by
 obtain ⟨g1, g2, g3⟩ := hg
 simp only [inr] at g1 g2
 unfold sizeI
 refine Meets.intro Tryz.func49 rfl (Nat.le_of_ble_eq_true rfl) fun C hC => ?_
 simp only [List.map, argEnv, Nat.reduceAdd]
 refine nK ?_
 refine zb ?_
 refine zq ?_
 refine ze ?_
 refine zc ?_
 refine nK ?_
 refine zb ?_
 refine zg ?_
 refine zh ?_
 refine zbn ?_
 refine za ?_
 refine zn ?_
 refine zm ?_
 refine zcc ?_
 refine zv ?_
 refine zd ?_
 refine zc ?_
 refine nK ?_
 refine n_cond _ rfl (fun hb => ?_) (fun hb => ?_)
 ·rw [if_pos (by simpa using hb)]
  refine nK ?_
  refine zb ?_
  refine ze ?_
  refine zc ?_
  refine nK ?_
  exact wO hC
 rw [if_neg (by simp at hb; omega)]
 have h0 : 0 ≤ g.r ∧ 0 ≤ g.n := by simp at hb; omega
 refine nK ?_
 refine zb ?_
 refine zg ?_
 refine zh ?_
 refine zcg ?_
 refine za ?_
 refine zn ?_
 refine zm ?_
 refine zcb ?_
 refine zv ?_
 refine za ?_
 refine zn ?_
 refine zm ?_
 refine zn ?_
 refine zm ?_
 refine zbs ?_
 refine zcb ?_
 refine zv ?_
 refine za ?_
 refine zn ?_
 refine zm ?_
 refine zbt ?_
 refine zcb ?_
 refine zv ?_
 refine zd ?_
 refine zc ?_
 refine nK ?_
 refine n_cond _ rfl (fun hb => ?_) (fun hb => ?_)
 ·rw [if_pos (by simp at hb; omega)]
  refine nK ?_
  refine zb ?_
  refine ze ?_
  refine zc ?_
  refine nK ?_
  exact wO hC
 rw [if_neg (by simp at hb; omega)]
 refine nK ?_
 refine zb ?_
 refine ze ?_
 refine zc ?_
 refine nK ?_
 exact wO hC
theorem isnode_c (g : Gr) (x : Int) (hs : szOk g) : Pure Tryz.prog 69 [.agg (encG g), If .i64 x] (Bf (nodeB g x)) := by
 obtain ⟨h1, h2, h3⟩ := hs
 refine Meets.intro Tryz.func69 rfl (Nat.le_of_ble_eq_true rfl) fun C hC => ?_
 simp only [List.map, argEnv, Nat.reduceAdd]
 refine nK ?_
 refine zb ?_
 refine zq ?_
 refine ze ?_
 refine zc ?_
 refine nK ?_
 refine zb ?_
 refine za ?_
 refine zby ?_
 refine za ?_
 refine zf ?_
 refine zn ?_
 refine zm ?_
 refine zn ?_
 refine zm ?_
 refine zbs ?_
 refine zbk ?_
 refine zt ?_
 refine zd ?_
 refine zc ?_
 refine nK ?_
 exact wO hC
theorem rnode_c (g : Gr) (x : Int) (hs : szOk g) (hx : inr .i64 x) : Pure Tryz.prog 39 [.agg (encG g), If .i64 x] (Bf (nodeB g x)) := by
 obtain ⟨h1, h2, h3⟩ := hs
 simp only [inr] at hx
 have e : nodeB g x = (decide (0 ≤ x) && (decide (x < g.r) || decide (x - g.r < g.n))) := by
  unfold nodeB; rw [Bool.eq_iff_iff]; simp; omega
 rw [e]
 refine Meets.intro Tryz.func39 rfl (Nat.le_of_ble_eq_true rfl) fun C hC => ?_
 simp only [List.map, argEnv, Nat.reduceAdd]
 refine nK ?_
 refine zb ?_
 refine zq ?_
 refine ze ?_
 refine zc ?_
 refine nK ?_
 refine zb ?_
 refine za ?_
 refine zby ?_
 refine za ?_
 refine zf ?_
 refine zn ?_
 refine zm ?_
 refine zbk ?_
 refine zbp ?_
 refine zf ?_
 refine zn ?_
 refine zm ?_
 refine rgZ 16 rfl rfl tG (op_sub rfl (oO rfl tO) (oO rfl tO) tI) ?_
 refine zn ?_
 refine zm ?_
 refine zbk ?_
 refine zcd ?_
 refine zt ?_
 refine zd ?_
 refine zc ?_
 refine nK ?_
 exact wO hC
theorem allowed_c (g : Gr) (e : Edg) (hs : szOk g) : Pure Tryz.prog 50 [.agg (encG g), .agg (encE e)] (If .i64 (alwI g e)) := by
 unfold alwI
 refine Meets.intro Tryz.func50 rfl (Nat.le_of_ble_eq_true rfl) fun C hC => ?_
 simp only [List.map, argEnv, Nat.reduceAdd]
 refine nK ?_
 refine zb ?_
 refine zq ?_
 refine zq ?_
 refine ze ?_
 refine zc ?_
 refine nK ?_
 refine zb ?_
 refine ze ?_
 refine ze ?_
 refine zc ?_
 refine nK ?_
 refine zb ?_
 refine zg ?_
 refine zh ?_
 refine zg ?_
 refine zh ?_
 refine zcj ?_
 refine zc ?_
 refine nK ?_
 refine n_cond _ rfl (fun hb => ?_) (fun hb => ?_)
 ·have h0 : g.r ≤ e.f := by simpa using hb
  refine nK ?_
  refine zb ?_
  refine ze ?_
  refine ze ?_
  refine zc ?_
  refine nK ?_
  refine zb ?_
  refine zk ?_
  refine zg ?_
  refine zh ?_
  refine rpZ 16 rfl (op_call_pure (fun _ => isnode_c _ _ (by assumption)) rfl (Opd.func _) (oS (oT rfl) (oS (oT rfl) Opds.nil))) ?_
  refine zbj ?_
  refine za ?_
  refine zbe ?_
  refine zn ?_
  refine zm ?_
  refine rgZ 22 rfl rfl tG (op_call_pure (fun _ => isnode_c _ _ (by assumption)) rfl (Opd.func _) (oS (oO rfl tO) (oS (oO rfl tO) Opds.nil))) ?_
  refine zbl ?_
  refine zv ?_
  refine zd ?_
  refine zc ?_
  refine nK ?_
  refine n_cond _ rfl (fun hb => ?_) (fun hb => ?_)
  ·rw [if_pos (by simpa using hb)]
   refine nK ?_
   refine zb ?_
   refine ze ?_
   refine zc ?_
   refine nK ?_
   exact wO hC
  rw [if_neg (by simpa using hb)]
  refine nK ?_
  refine zb ?_
  refine zg ?_
  refine zh ?_
  refine zg ?_
  refine zh ?_
  refine zbr ?_
  refine za ?_
  refine zn ?_
  refine zm ?_
  refine zn ?_
  refine zm ?_
  refine zbz ?_
  refine zbp ?_
  refine zn ?_
  refine zm ?_
  refine zn ?_
  refine zm ?_
  refine zbz ?_
  refine zcf ?_
  refine zv ?_
  refine za ?_
  refine zn ?_
  refine zm ?_
  refine zf ?_
  refine zbk ?_
  refine zv ?_
  refine za ?_
  refine zn ?_
  refine zm ?_
  refine zf ?_
  refine zda ?_
  refine zv ?_
  refine zd ?_
  refine zc ?_
  refine nK ?_
  refine n_cond _ rfl (fun hb => ?_) (fun hb => ?_)
  ·rw [if_pos (by simp at hb; omega)]
   refine nK ?_
   refine zb ?_
   refine ze ?_
   refine zc ?_
   refine nK ?_
   exact wO hC
  rw [if_neg (by simp at hb; omega)]
  refine nK ?_
  refine zb ?_
  refine ze ?_
  refine zc ?_
  refine nK ?_
  exact wO hC
 have h0 : ¬ g.r ≤ e.f := by simpa using hb
 refine nK ?_
 refine zb ?_
 refine zk ?_
 refine zg ?_
 refine zh ?_
 refine rpZ 16 rfl (op_call_pure (fun _ => isnode_c _ _ (by assumption)) rfl (Opd.func _) (oS (oT rfl) (oS (oT rfl) Opds.nil))) ?_
 refine zbj ?_
 refine za ?_
 refine zbe ?_
 refine zn ?_
 refine zm ?_
 refine rgZ 22 rfl rfl tG (op_call_pure (fun _ => isnode_c _ _ (by assumption)) rfl (Opd.func _) (oS (oO rfl tO) (oS (oO rfl tO) Opds.nil))) ?_
 refine zbl ?_
 refine zv ?_
 refine zd ?_
 refine zc ?_
 refine nK ?_
 refine n_cond _ rfl (fun hb => ?_) (fun hb => ?_)
 ·rw [if_pos (by simpa using hb)]
  refine nK ?_
  refine zb ?_
  refine ze ?_
  refine zc ?_
  refine nK ?_
  exact wO hC
 rw [if_neg (by simpa using hb)]
 refine nK ?_
 refine zb ?_
 refine zg ?_
 refine zh ?_
 refine zg ?_
 refine zh ?_
 refine zbr ?_
 refine za ?_
 refine zn ?_
 refine zm ?_
 refine zn ?_
 refine zm ?_
 refine zbz ?_
 refine zbp ?_
 refine zn ?_
 refine zm ?_
 refine zn ?_
 refine zm ?_
 refine zbz ?_
 refine zcf ?_
 refine zv ?_
 refine za ?_
 refine zn ?_
 refine zm ?_
 refine zf ?_
 refine zbk ?_
 refine zv ?_
 refine za ?_
 refine zn ?_
 refine zm ?_
 refine zf ?_
 refine zda ?_
 refine zv ?_
 refine zd ?_
 refine zc ?_
 refine nK ?_
 refine n_cond _ rfl (fun hb => ?_) (fun hb => ?_)
 ·rw [if_pos (by simp at hb; omega)]
  refine nK ?_
  refine zb ?_
  refine ze ?_
  refine zc ?_
  refine nK ?_
  exact wO hC
 rw [if_neg (by simp at hb; omega)]
 refine nK ?_
 refine zb ?_
 refine ze ?_
 refine zc ?_
 refine nK ?_
 exact wO hC
theorem rallowed_c (g : Gr) (e : Edg) (hs : szOk g) (he : okE e) : Pure Tryz.prog 41 [.agg (encG g), .agg (encE e)] (If .i64 (alwI g e)) := by
 obtain ⟨h1, h2, h3⟩ := he
 unfold alwI
 refine Meets.intro Tryz.func41 rfl (Nat.le_of_ble_eq_true rfl) fun C hC => ?_
 simp only [List.map, argEnv, Nat.reduceAdd]
 refine nK ?_
 refine zb ?_
 refine zq ?_
 refine zq ?_
 refine ze ?_
 refine zc ?_
 refine nK ?_
 refine zb ?_
 refine zk ?_
 refine zg ?_
 refine zh ?_
 refine rpZ 8 rfl (op_call_pure (fun _ => rnode_c _ _ (by assumption) (by assumption)) rfl (Opd.func _) (oS (oT rfl) (oS (oT rfl) Opds.nil))) ?_
 refine zbj ?_
 refine za ?_
 refine zbe ?_
 refine zn ?_
 refine zm ?_
 refine rgZ 14 rfl rfl tG (op_call_pure (fun _ => rnode_c _ _ (by assumption) (by assumption)) rfl (Opd.func _) (oS (oO rfl tO) (oS (oO rfl tO) Opds.nil))) ?_
 refine zbl ?_
 refine zv ?_
 refine zc ?_
 refine nK ?_
 refine n_cond _ rfl (fun hb => ?_) (fun hb => ?_)
 ·rw [if_pos (by simpa using hb)]
  refine nK ?_
  refine zb ?_
  refine ze ?_
  refine zc ?_
  refine nK ?_
  exact wO hC
 rw [if_neg (by simpa using hb)]
 refine nK ?_
 refine zb ?_
 refine zg ?_
 refine zh ?_
 refine zg ?_
 refine zh ?_
 refine zbr ?_
 refine za ?_
 refine zn ?_
 refine zm ?_
 refine zn ?_
 refine zm ?_
 refine zbz ?_
 refine zbp ?_
 refine zn ?_
 refine zm ?_
 refine zn ?_
 refine zm ?_
 refine zbz ?_
 refine zcf ?_
 refine zv ?_
 refine zc ?_
 refine nK ?_
 refine n_cond _ rfl (fun hb => ?_) (fun hb => ?_)
 ·rw [if_pos (by simp at hb; omega)]
  refine nK ?_
  refine zb ?_
  refine ze ?_
  refine zc ?_
  refine nK ?_
  exact wO hC
 have h4 := hb
 refine nK ?_
 refine zb ?_
 refine zg ?_
 refine zh ?_
 refine zg ?_
 refine zh ?_
 refine zcj ?_
 refine za ?_
 refine zn ?_
 refine zm ?_
 refine zcw ?_
 refine zt ?_
 refine za ?_
 refine zn ?_
 refine zm ?_
 refine zn ?_
 refine zm ?_
 refine zbk ?_
 refine zbp ?_
 refine zn ?_
 refine zm ?_
 refine zcc ?_
 refine zbp ?_
 refine zn ?_
 refine zm ?_
 refine zcb ?_
 refine zcd ?_
 refine zcf ?_
 refine zv ?_
 refine zc ?_
 refine nK ?_
 refine n_cond _ rfl (fun hb => ?_) (fun hb => ?_)
 ·rw [if_pos (by simp at hb h4; omega)]
  refine nK ?_
  refine zb ?_
  refine ze ?_
  refine zc ?_
  refine nK ?_
  exact wO hC
 rw [if_neg (by simp at hb h4; omega)]
 refine nK ?_
 refine zb ?_
 refine ze ?_
 refine zc ?_
 refine nK ?_
 exact wO hC
end Go.Proofs.YtcillieggklaaaaGreat
/- Lists of edges and numbers: what the reference's loops compute. -/
namespace Go.Pl
open Go.RT
set_option linter.all false
def isB (f t : Int) (e : Edg) : Bool := decide (e.f = f) && decide (e.t = t)
def fndAt (f t : Int) : Nat → List Edg → Int
  | _, [] => -1
  | k, e :: l => if isB f t e = true then (k : Int) else fndAt f t (k + 1) l
abbrev fndI (l : List Edg) (f t : Int) : Int := fndAt f t 0 l
def costL (f t : Int) : List Edg → Int × Bool
  | [] => (0, false)
  | e :: l => if isB f t e = true then (e.c, true) else costL f t l
def putR (e : Edg) : Bool → List Edg → List Edg
  | d, [] => if d then [] else [e]
  | d, x :: l => (if !d && befB e x then [e] else []) ++ (x :: putR e (d || (!d && befB e x)) l)
def butR (at_ : Int) : Nat → List Edg → List Edg
  | _, [] => []
  | k, e :: l => (if (k : Int) ≠ at_ then [e] else []) ++ butR at_ (k + 1) l
theorem cost_fnd (f t : Int) : ∀ (l : List Edg) (k : Nat), (fndAt f t k l = -1 ∧ costL f t l = (0, false)) ∨ ∃ j : Nat, ∃ h : j < l.length, fndAt f t k l = ((k + j : Nat) : Int) ∧ costL f t l = (l[j].c, true)
  | [], k => .inl ⟨rfl, rfl⟩
  | e :: l, k => by
    simp only [fndAt, costL]
    split
    · exact .inr ⟨0, by simp, rfl, rfl⟩
    · rcases cost_fnd f t l (k + 1) with h | ⟨j, h1, h2, h3⟩
      · exact .inl h
      · exact .inr ⟨j + 1, by simp; omega, by rw [h2]; omega, by simpa using h3⟩
end Go.Pl
namespace Go.Proofs.YtcillieggklaaaaGreat
open Go Go.RT Go.Proofs Go.Pl
set_option linter.all false
set_option maxRecDepth 20000
set_option maxHeartbeats 4000000
theorem wHX2a {α : Prop} (h : α := by repeat (first | exact trivial | refine ⟨wS, ?_⟩ | refine ⟨ent_same rfl rfl (rfEq rfl tU) tL, ?_⟩ | refine ⟨ent_same rfl rfl (flEq rfl (by first | (simp; done) | (simp; omega) | (simp [encE]; done) | simp [maxC, minC])) trivial, ?_⟩)) : α := h
abbrev OG (g : Gr) : Option Ob := some (.flat 3 [encG g])
theorem prev_row {l : List Edg} {i : Nat} (h0 : 0 < i) (h : i ≤ l.length) : ∃ q, prevO l i = some q ∧ (l.map encE)[i - 1]? = some (encE q) := by
 have h1 : i - 1 < l.length := by omega
 exact ⟨l[i - 1], by simp [prevO, h1]; omega, row_at' encE l (i - 1) h1⟩
theorem check_c (g : Gr) (hg : okG g) : Pure Tryz.prog 24 [.agg (encG g)] (If .i64 (checkI g)) := by
 unfold checkI
 refine Meets.intro Tryz.func24 rfl (Nat.le_of_ble_eq_true rfl) fun C hC => ?_
 simp only [List.map, argEnv, Nat.reduceAdd]
 refine nK ?_
 refine zb ?_
 refine zq ?_
 refine ze ?_
 refine zc ?_
 refine nK ?_
 refine zb ?_
 refine zk ?_
 refine rpZ 8 rfl (op_call_pure (fun _ => size_c _ (by assumption)) rfl (Opd.func _) (oS (oT rfl) Opds.nil)) ?_
 refine zd ?_
 refine zc ?_
 refine nK ?_
 refine zb ?_
 refine za ?_
 refine zbd ?_
 refine zc ?_
 refine nK ?_
 refine n_cond _ rfl (fun hb => ?_) (fun hb => ?_)
 ·rw [if_pos (by simpa using hb)]
  refine nK ?_
  refine zb ?_
  refine za ?_
  refine zd ?_
  refine zc ?_
  refine nK ?_
  exact wO hC
 have hz : sizeI g = 0 := by simpa using hb
 rw [if_neg (by simp [hz])]
 obtain ⟨hs, hlen⟩ := sizeI_ok hz
 refine nK ?_
 refine zb ?_
 refine zg ?_
 refine zh ?_
 refine zo ?_
 refine zbb ?_
 refine zc ?_
 refine nK ?_
 refine n_loop (ι := Nat) (fun i => ([(1, .ptr 0 3 0 0), (13, .fz (VE g.es)), (14, IV .i64 g.es.length), (15, IV .i64 i)], [(0, OG g)], 1)) (fun i => i ≤ g.es.length ∧ chkL g (prevO g.es i) (g.es.drop i) = chkL g none g.es) (fun i => g.es.length - i) 0 ⟨Nat.zero_le _, rfl⟩ ?_ ?_
 ·refine Next.weakS [1] [] (by rfl) (wK hC) wG wHX2a rfl (rel_intro)
 intro i ⟨hi, ho⟩ K hK
 refine nK ?_
 refine zb ?_
 refine zp ?_
 refine zc ?_
 refine nK ?_
 refine n_cond _ rfl (fun hb => ?_) (fun hb => ?_)
 ·have hlt : i < g.es.length := by simp at hb; omega
  have hr1 := row_at' encE g.es i hlt
  rw [chk_step hlt] at ho
  have hK1 := fun h => hK (i + 1) ⟨by omega, h⟩ (by omega)
  refine nK ?_
  refine zb ?_
  refine za ?_
  refine zz ?_
  refine zbf ?_
  refine zu ?_
  refine zd ?_
  refine zr ?_
  refine zc ?_
  refine nK ?_
  refine zb ?_
  refine zk ?_
  refine zk ?_
  refine rpZ 22 rfl (op_call_pure (fun _ => allowed_c _ _ (by assumption)) rfl (Opd.func _) (oS (oT rfl) (oS (oT rfl) Opds.nil))) ?_
  refine zd ?_
  refine zc ?_
  refine nK ?_
  refine zb ?_
  refine za ?_
  refine zbd ?_
  refine zc ?_
  refine nK ?_
  refine n_cond _ rfl (fun hb => ?_) (fun hb => ?_)
  ·have ha : alwI g g.es[i] ≠ 0 := by simpa using hb
   rw [if_pos ha] at ho
   rw [← ho]
   refine nK ?_
   refine zb ?_
   refine za ?_
   refine zd ?_
   refine zc ?_
   refine nK ?_
   exact wO hC
  have ha : ¬ alwI g g.es[i] ≠ 0 := by simpa using hb
  rw [if_neg ha] at ho
  have hp : ∃ q, (0 < i → prevO g.es i = some q ∧ (g.es.map encE)[i - 1]? = some (encE q)) := by
   by_cases h0 : 0 < i
   ·obtain ⟨q, h1, h2⟩ := prev_row h0 hi
    exact ⟨q, fun _ => ⟨h1, h2⟩⟩
   exact ⟨⟨0, 0, 0⟩, fun h => absurd h h0⟩
  obtain ⟨q, hq⟩ := hp
  refine nK ?_
  refine s_draw mixed ?_
  refine za ?_
  refine zcg ?_
  refine za ?_
  refine zn ?_
  refine zm ?_
  refine zf ?_
  refine zcz ?_
  refine rgZ 33 rfl rfl tG (op_idx_fz (i - 1) rfl (oO rfl tO) (oO rfl tO) (by intro hg; have h0 : 0 < i := (by simp at hg; omega); exact ⟨by omega, (hq h0).2⟩)) ?_
  refine zcx ?_
  refine zbe ?_
  refine rgZ 36 rfl rfl tG (op_call_pure (fun _ => order_c _ _) rfl (Opd.func _) (oS (oO rfl tO) (oS (oO rfl tO) Opds.nil))) ?_
  refine zck ?_
  refine zt ?_
  refine zs ?_
  refine nK ?_
  refine n_cond _ rfl (fun hb => ?_) (fun hb => ?_)
  ·have h0 : 0 < i := by simp at hb; omega
   rw [(hq h0).1, if_pos (by rw [ordE_ge] at hb; simp at hb; simpa [badP] using hb.2)] at ho
   rw [← ho]
   refine nK ?_
   refine zb ?_
   refine ze ?_
   refine zc ?_
   refine nK ?_
   exact wO hC
  have hc : ¬ badP (prevO g.es i) g.es[i] = true := by
   by_cases h0 : 0 < i
   ·rw [(hq h0).1]; rw [ordE_ge] at hb; simp [h0, badP] at hb ⊢; exact hb
   have : i = 0 := by omega
   subst this; simp [prevO, badP]
  rw [if_neg hc] at ho
  refine nK ?_
  refine zb ?_
  refine zl ?_
  refine za ?_
  refine zc ?_
  refine nK ?_
  refine Next.weakS [1] [] (by rfl) (wK hC) wG wHX2a rfl ((hK1 ho))
 have hie : i = g.es.length := by simp at hb; omega
 rw [hie, List.drop_length] at ho
 rw [← ho]
 simp only [chkL]
 refine nK ?_
 refine zb ?_
 refine ze ?_
 refine zc ?_
 refine nK ?_
 exact wO hC
theorem rsize_c (g : Gr) (hg : okG g) : Pure Tryz.prog 66 [.agg (encG g)] (If .i64 (if g.r < 0 ∨ g.n < 0 then 5 else if g.r > 128 ∨ g.n > 128 - g.r then 4 else 0)) := by
 obtain ⟨g1, g2, g3⟩ := hg
 simp only [inr] at g1 g2
 refine Meets.intro Tryz.func66 rfl (Nat.le_of_ble_eq_true rfl) fun C hC => ?_
 simp only [List.map, argEnv, Nat.reduceAdd]
 refine nK ?_
 refine zb ?_
 refine zq ?_
 refine ze ?_
 refine zc ?_
 refine nK ?_
 refine zb ?_
 refine zg ?_
 refine zh ?_
 refine zbn ?_
 refine za ?_
 refine zn ?_
 refine zm ?_
 refine zcc ?_
 refine zv ?_
 refine zc ?_
 refine nK ?_
 refine n_cond _ rfl (fun hb => ?_) (fun hb => ?_)
 ·rw [if_pos (by simpa using hb)]
  refine nK ?_
  refine zb ?_
  refine ze ?_
  refine zc ?_
  refine nK ?_
  exact wO hC
 rw [if_neg (by simp at hb; omega)]
 have h0 : 0 ≤ g.r ∧ 0 ≤ g.n := by simp at hb; omega
 refine nK ?_
 refine zb ?_
 refine zg ?_
 refine zh ?_
 refine zcg ?_
 refine za ?_
 refine zn ?_
 refine zm ?_
 refine zn ?_
 refine zm ?_
 refine rgZ 19 rfl rfl tG (op_sub rfl oC (oO rfl tO) tI) ?_
 refine zda ?_
 refine zv ?_
 refine zc ?_
 refine nK ?_
 refine n_cond _ rfl (fun hb => ?_) (fun hb => ?_)
 ·rw [if_pos (by simp at hb; omega)]
  refine nK ?_
  refine zb ?_
  refine ze ?_
  refine zc ?_
  refine nK ?_
  exact wO hC
 rw [if_neg (by simp at hb; omega)]
 refine nK ?_
 refine zb ?_
 refine ze ?_
 refine zc ?_
 refine nK ?_
 exact wO hC
theorem rcheck_c (g : Gr) (hg : okG g) : Pure Tryz.prog 31 [.agg (encG g)] (If .i64 (checkI g)) := by
 obtain ⟨_, _, hes⟩ := id hg
 unfold checkI
 refine Meets.intro Tryz.func31 rfl (Nat.le_of_ble_eq_true rfl) fun C hC => ?_
 simp only [List.map, argEnv, Nat.reduceAdd]
 refine nK ?_
 refine zb ?_
 refine zq ?_
 refine ze ?_
 refine zc ?_
 refine nK ?_
 refine zb ?_
 refine zk ?_
 refine rpZ 7 rfl (op_call_pure (fun _ => rsize_c _ (by assumption)) rfl (Opd.func _) (oS (oT rfl) Opds.nil)) ?_
 refine zd ?_
 refine zc ?_
 refine nK ?_
 refine zb ?_
 refine za ?_
 refine zbd ?_
 refine zc ?_
 refine nK ?_
 refine n_cond _ rfl (fun hb => ?_) (fun hb => ?_)
 ·have : sizeI g = (if g.r < 0 ∨ g.n < 0 then 5 else if g.r > 128 ∨ g.n > 128 - g.r then 4 else 0) := by
   unfold sizeI
   by_cases h1 : g.r < 0 ∨ g.n < 0
   ·rw [if_pos h1, if_pos h1]
   rw [if_neg h1, if_neg h1]
   rw [if_neg h1] at hb
   by_cases h2 : g.r > 128 ∨ g.n > 128 - g.r
   ·rw [if_pos h2, if_pos (by omega)]
   rw [if_neg h2] at hb; cases hb
  rw [← this] at hb ⊢
  rw [if_pos (by simpa using hb)]
  refine nK ?_
  refine zb ?_
  refine za ?_
  refine zd ?_
  refine zc ?_
  refine nK ?_
  exact wO hC
 have hb0 : (if g.r < 0 ∨ g.n < 0 then (5 : Int) else if g.r > 128 ∨ g.n > 128 - g.r then 4 else 0) = 0 := by simpa using hb
 have h1 : ¬ (g.r < 0 ∨ g.n < 0) := fun h => by rw [if_pos h] at hb0; cases hb0
 rw [if_neg h1] at hb0
 have h2 : ¬ (g.r > 128 ∨ g.n > 128 - g.r) := fun h => by rw [if_pos h] at hb0; cases hb0
 refine nK ?_
 refine zb ?_
 refine zg ?_
 refine zh ?_
 refine zo ?_
 refine zcg ?_
 refine zc ?_
 refine nK ?_
 refine n_cond _ rfl (fun hb => ?_) (fun hb => ?_)
 ·have hz : sizeI g = 4 := by unfold sizeI; rw [if_neg h1, if_pos (by simp at hb; omega)]
  have hcz : sizeI g ≠ 0 := by rw [hz]; decide
  rw [if_pos hcz, hz]
  refine nK ?_
  refine zb ?_
  refine ze ?_
  refine zc ?_
  refine nK ?_
  exact wO hC
 have hz : sizeI g = 0 := by unfold sizeI; rw [if_neg h1, if_neg (by simp at hb; omega)]
 have hcz : ¬ sizeI g ≠ 0 := by simp [hz]
 rw [if_neg hcz]
 obtain ⟨hs, hlen⟩ := sizeI_ok hz
 refine nK ?_
 refine zb ?_
 refine ze ?_
 refine zc ?_
 refine nK ?_
 refine n_loop (ι := Nat) (fun i => ([(1, .ptr 0 3 0 0), (4, IV .i64 i)], [(0, OG g)], 1)) (fun i => i ≤ g.es.length ∧ chkL g (prevO g.es i) (g.es.drop i) = chkL g none g.es) (fun i => g.es.length - i) 0 ⟨Nat.zero_le _, rfl⟩ ?_ ?_
 ·refine Next.weakS [1] [] (by rfl) (wK hC) wG wHX2a rfl (rel_intro)
 intro i ⟨hi, ho⟩ K hK
 refine nK ?_
 refine zb ?_
 refine za ?_
 refine zg ?_
 refine zh ?_
 refine zo ?_
 refine zp ?_
 refine zc ?_
 refine nK ?_
 refine n_cond _ rfl (fun hb => ?_) (fun hb => ?_)
 ·have hlt : i < g.es.length := by simp at hb; omega
  have hr1 := row_at' encE g.es i hlt
  have hoe := hes g.es[i] (List.getElem_mem hlt)
  rw [chk_step hlt] at ho
  have hK1 := fun h => hK (i + 1) ⟨by omega, h⟩ (by omega)
  refine nK ?_
  refine s_draw mixed ?_
  refine zk ?_
  refine zg ?_
  refine zh ?_
  refine za ?_
  refine zz ?_
  refine zbf ?_
  refine rpZ 28 rfl (op_call_pure (fun _ => rallowed_c _ _ (by assumption) (by assumption)) rfl (Opd.func _) (oS (oT rfl) (oS (oT rfl) Opds.nil))) ?_
  refine zd ?_
  refine zs ?_
  refine nK ?_
  refine zb ?_
  refine za ?_
  refine zbd ?_
  refine zc ?_
  refine nK ?_
  refine n_cond _ rfl (fun hb => ?_) (fun hb => ?_)
  ·have ha : alwI g g.es[i] ≠ 0 := by simpa using hb
   rw [if_pos ha] at ho
   rw [← ho]
   refine nK ?_
   refine zb ?_
   refine za ?_
   refine zd ?_
   refine zc ?_
   refine nK ?_
   exact wO hC
  have ha : ¬ alwI g g.es[i] ≠ 0 := by simpa using hb
  rw [if_neg ha] at ho
  have hp : ∃ q, (0 < i → prevO g.es i = some q ∧ (g.es.map encE)[i - 1]? = some (encE q)) := by
   by_cases h0 : 0 < i
   ·obtain ⟨q, h1, h2⟩ := prev_row h0 hi
    exact ⟨q, fun _ => ⟨h1, h2⟩⟩
   exact ⟨⟨0, 0, 0⟩, fun h => absurd h h0⟩
  obtain ⟨q, hq⟩ := hp
  refine nK ?_
  refine s_draw mixed ?_
  refine za ?_
  refine zcg ?_
  refine za ?_
  refine zn ?_
  refine zm ?_
  refine zf ?_
  refine zcz ?_
  refine rgZ 39 rfl rfl tG (op_idx_fz (i - 1) rfl (oO rfl tO) (oO rfl tO) (by intro hg; have h0 : 0 < i := (by simp at hg; omega); exact ⟨by omega, (hq h0).2⟩)) ?_
  refine zcx ?_
  refine zn ?_
  refine zm ?_
  refine zf ?_
  refine zdd ?_
  refine zcx ?_
  refine rgZ 46 rfl rfl tG (op_call_pure (fun _ => before_c _ _) rfl (Opd.func _) (oS (oO rfl tO) (oS (oO rfl tO) Opds.nil))) ?_
  refine zbl ?_
  refine zt ?_
  refine zs ?_
  refine nK ?_
  refine n_cond _ rfl (fun hb => ?_) (fun hb => ?_)
  ·have h0 : 0 < i := by simp at hb; omega
   rw [(hq h0).1, if_pos (by simp at hb; simpa [badP] using hb.2)] at ho
   rw [← ho]
   refine nK ?_
   refine zb ?_
   refine ze ?_
   refine zc ?_
   refine nK ?_
   exact wO hC
  have hc : ¬ badP (prevO g.es i) g.es[i] = true := by
   by_cases h0 : 0 < i
   ·rw [(hq h0).1]; simp [h0, badP] at hb ⊢; exact hb
   have : i = 0 := by omega
   subst this; simp [prevO, badP]
  rw [if_neg hc] at ho
  refine nK ?_
  refine zb ?_
  refine za ?_
  refine zl ?_
  refine zd ?_
  refine zc ?_
  refine nK ?_
  refine Next.weakS [1] [] (by rfl) (wK hC) wG wHX2a rfl ((hK1 ho))
 have hie : i = g.es.length := by simp at hb; omega
 rw [hie, List.drop_length] at ho
 rw [← ho]
 simp only [chkL]
 refine nK ?_
 refine zb ?_
 refine ze ?_
 refine zc ?_
 refine nK ?_
 exact wO hC
open Go Go.RT Go.Proofs Go.Pl
set_option maxRecDepth 20000
set_option maxHeartbeats 4000000
theorem wHX3a {α : Prop} (h : α := by repeat (first | exact trivial | refine ⟨wS, ?_⟩ | refine ⟨ent_same rfl rfl (rfEq rfl tU) tL, ?_⟩ | refine ⟨ent_same rfl rfl (flEq rfl (by first | (simp; done) | (simp; omega) | (simp [encE, encN, encB]; done) | simp [maxC, minC])) trivial, ?_⟩)) : α := h
theorem find_c (g : Gr) (f t : Int) (hn : g.es.length ≤ 2000000) : Pure Tryz.prog 40 [.agg (encG g), If .i64 f, If .i64 t] (If .i64 (fndI g.es f t)) := by
 refine Meets.intro Tryz.func40 rfl (Nat.le_of_ble_eq_true rfl) fun C hC => ?_
 simp only [List.map, argEnv, Nat.reduceAdd]
 refine nK ?_
 refine zb ?_
 refine zq ?_
 refine ze ?_
 refine zc ?_
 refine nK ?_
 refine zb ?_
 refine ze ?_
 refine zc ?_
 refine nK ?_
 refine n_loop (ι := Nat) (fun i => ([(1, IV .i64 f), (2, IV .i64 t), (3, .ptr 0 3 0 0), (7, IV .i64 i)], [(0, OG g)], 1)) (fun i => i ≤ g.es.length ∧ fndAt f t i (g.es.drop i) = fndI g.es f t) (fun i => g.es.length - i) 0 ⟨Nat.zero_le _, rfl⟩ ?_ ?_
 ·refine Next.weakS [3] [] (by rfl) (wK hC) wG wHX3a rfl (rel_intro)
 intro i ⟨hi, ho⟩ K hK
 refine nK ?_
 refine zb ?_
 refine za ?_
 refine zg ?_
 refine zh ?_
 refine zo ?_
 refine zp ?_
 refine zc ?_
 refine nK ?_
 refine n_cond _ rfl (fun hb => ?_) (fun hb => ?_)
 ·have hlt : i < g.es.length := by simp at hb; omega
  have hr1 := row_at' encE g.es i hlt
  rw [List.drop_eq_getElem_cons hlt] at ho
  simp only [fndAt] at ho
  have hK1 := fun h => hK (i + 1) ⟨by omega, h⟩ (by omega)
  generalize g.es[i] = e at *
  refine nK ?_
  refine zb ?_
  refine zg ?_
  refine zh ?_
  refine za ?_
  refine zz ?_
  refine zx ?_
  refine zj ?_
  refine za ?_
  refine zbr ?_
  refine za ?_
  refine zn ?_
  refine zm ?_
  refine zf ?_
  refine zdd ?_
  refine zdg ?_
  refine zw ?_
  refine zf ?_
  refine zbo ?_
  refine zt ?_
  refine zc ?_
  refine nK ?_
  refine n_cond _ rfl (fun hb => ?_) (fun hb => ?_)
  ·rw [if_pos (by simpa [isB] using hb)] at ho
   rw [← ho]
   refine nK ?_
   refine zb ?_
   refine za ?_
   refine zd ?_
   refine zc ?_
   refine nK ?_
   exact wO hC
  rw [if_neg (by simpa [isB] using hb)] at ho
  refine nK ?_
  refine zb ?_
  refine za ?_
  refine zl ?_
  refine zd ?_
  refine zc ?_
  refine nK ?_
  refine Next.weakS [3] [] (by rfl) (wK hC) wG wHX3a rfl ((hK1 ho))
 have hie : i = g.es.length := by simp at hb; omega
 rw [hie, List.drop_length] at ho
 rw [← ho]
 refine nK ?_
 refine zb ?_
 refine ze ?_
 refine zc ?_
 refine nK ?_
 exact wO hC
theorem rcost_c (g : Gr) (f t : Int) (hn : g.es.length ≤ 2000000) : Pure Tryz.prog 37 [.agg (encG g), If .i64 f, If .i64 t] (.tup [If .i64 (costL f t g.es).1, Bf (costL f t g.es).2]) := by
 rcases cost_fnd f t g.es 0 with ⟨h1, h2⟩ | ⟨j, hj, h1, h2⟩
 ·rw [h2]
  refine Meets.intro Tryz.func37 rfl (Nat.le_of_ble_eq_true rfl) fun C hC => ?_
  simp only [List.map, argEnv, Nat.reduceAdd]
  refine nK ?_
  refine zb ?_
  refine zq ?_
  refine ze ?_
  refine ze ?_
  refine zc ?_
  refine nK ?_
  refine zb ?_
  refine zk ?_
  refine za ?_
  refine za ?_
  refine rpZ 12 rfl (op_call_pure (fun _ => find_c _ _ _ (by omega)) rfl (Opd.func _) (oS (oT rfl) (oS (oT rfl) (oS (oT rfl) Opds.nil)))) ?_
  refine zd ?_
  refine zc ?_
  refine nK ?_
  refine zb ?_
  refine za ?_
  refine zbn ?_
  refine zc ?_
  refine nK ?_
  have h1' : fndI g.es f t = -1 := h1
  rw [h1']
  refine nK ?_
  refine n_cond _ rfl (fun hb => ?_) (fun hb => ?_)
  ·refine nK ?_
   refine zb ?_
   refine ze ?_
   refine ze ?_
   refine zc ?_
   refine nK ?_
   exact wO hC
  simp at hb
 rw [h2]
 have hr1 := row_at' encE g.es j hj
 refine Meets.intro Tryz.func37 rfl (Nat.le_of_ble_eq_true rfl) fun C hC => ?_
 simp only [List.map, argEnv, Nat.reduceAdd]
 refine nK ?_
 refine zb ?_
 refine zq ?_
 refine ze ?_
 refine ze ?_
 refine zc ?_
 refine nK ?_
 refine zb ?_
 refine zk ?_
 refine za ?_
 refine za ?_
 refine rpZ 12 rfl (op_call_pure (fun _ => find_c _ _ _ (by omega)) rfl (Opd.func _) (oS (oT rfl) (oS (oT rfl) (oS (oT rfl) Opds.nil)))) ?_
 refine zd ?_
 refine zc ?_
 refine nK ?_
 refine zb ?_
 refine za ?_
 refine zbn ?_
 refine zc ?_
 refine nK ?_
 have h1' : fndI g.es f t = ((0 + j : Nat) : Int) := h1
 rw [h1']
 refine nK ?_
 refine n_cond _ rfl (fun hb => ?_) (fun hb => ?_)
 ·simp at hb; omega
 refine nK ?_
 refine zb ?_
 refine zg ?_
 refine zh ?_
 refine za ?_
 refine rpZ 18 rfl (op_idx_fz j rfl (oT rfl) (oT rfl) (by intro _; exact ⟨by omega, hr1⟩)) ?_
 refine zx ?_
 refine zj ?_
 refine zd ?_
 refine ze ?_
 refine zc ?_
 refine nK ?_
 exact wO hC
theorem same_step {α : Type} [DecidableEq α] {a b : List α} {i : Nat} (ha : i < a.length) (hb : i < b.length) : (a.drop i = b.drop i) ↔ a[i] = b[i] ∧ a.drop (i + 1) = b.drop (i + 1) := by
 rw [List.drop_eq_getElem_cons ha, List.drop_eq_getElem_cons hb, List.cons.injEq]
end Go.Proofs.YtcillieggklaaaaGreat
/- Contracts of the library, laid at this translation. Written by the kit's printer. -/
namespace Go.Proofs.YtcillieggklaaaaGreat
open Go Go.Proofs Go.Shelf
def Tryz.sortInt_ren : Go.Shelf.Ren := ⟨fun | 189 => 64 | 125 => 88 | 257 => 87 | 128 => 110 | 129 => 111 | 294 => 101 | 295 => 102 | 296 => 103 | 297 => 104 | 298 => 105 | 299 => 106 | 216 => 107 | 300 => 108 | 301 => 109 | 328 => 119 | 329 => 120 | 330 => 121 | 331 => 122 | 332 => 123 | 215 => 68 | 343 => 134 | n => n, fun | 28 => 25 | 3 => 3 | 46 => 116 | 0 => 0 | 51 => 132 | 53 => 134 | 4 => 4 | 183 => 126 | 182 => 125 | 131 => 59 | 5 => 5 | 9 => 9 | 218 => 137 | 222 => 141 | 228 => 148 | 229 => 149 | n => n, fun | n => n⟩
theorem Tryz.sortInt : Go.Proofs.Lays.n189 Tryz.prog Tryz.sortInt_ren := {
  mixed := by kernel_rfl
  f125 := Tryz.func88.trans (congrArg some (by kernel_rfl))
  f128 := Tryz.func110.trans (congrArg some (by kernel_rfl))
  f129 := Tryz.func111.trans (congrArg some (by kernel_rfl))
  f189 := Tryz.func64.trans (congrArg some (by kernel_rfl))
  f215 := Tryz.func68.trans (congrArg some (by kernel_rfl))
  f216 := Tryz.func107.trans (congrArg some (by kernel_rfl))
  f257 := Tryz.func87.trans (congrArg some (by kernel_rfl))
  f294 := Tryz.func101.trans (congrArg some (by kernel_rfl))
  f295 := Tryz.func102.trans (congrArg some (by kernel_rfl))
  f296 := Tryz.func103.trans (congrArg some (by kernel_rfl))
  f297 := Tryz.func104.trans (congrArg some (by kernel_rfl))
  f298 := Tryz.func105.trans (congrArg some (by kernel_rfl))
  f299 := Tryz.func106.trans (congrArg some (by kernel_rfl))
  f300 := Tryz.func108.trans (congrArg some (by kernel_rfl))
  f301 := Tryz.func109.trans (congrArg some (by kernel_rfl))
  f328 := Tryz.func119.trans (congrArg some (by kernel_rfl))
  f329 := Tryz.func120.trans (congrArg some (by kernel_rfl))
  f330 := Tryz.func121.trans (congrArg some (by kernel_rfl))
  f331 := Tryz.func122.trans (congrArg some (by kernel_rfl))
  f332 := Tryz.func123.trans (congrArg some (by kernel_rfl))
  f343 := Tryz.func134.trans (congrArg some (by kernel_rfl))
  t0 := Tryz.underlying0
  a0 := Tryz.isAgg0
  z0 := Tryz.sizeOf0
  v0 := Tryz.zeroValue0
  t3 := Tryz.underlying3
  a3 := Tryz.isAgg3
  z3 := Tryz.sizeOf3
  v3 := Tryz.zeroValue3
  t4 := Tryz.underlying4
  a4 := Tryz.isAgg4
  z4 := Tryz.sizeOf4
  v4 := Tryz.zeroValue4
  t5 := Tryz.underlying5
  a5 := Tryz.isAgg5
  z5 := Tryz.sizeOf5
  v5 := Tryz.zeroValue5
  t9 := Tryz.underlying9
  a9 := Tryz.isAgg9
  z9 := Tryz.sizeOf9
  v9 := Tryz.zeroValue9
  t28 := Tryz.underlying25
  a28 := Tryz.isAgg25
  z28 := Tryz.sizeOf25
  v28 := Tryz.zeroValue25
  t46 := Tryz.underlying116
  a46 := Tryz.isAgg116
  z46 := Tryz.sizeOf116
  v46 := Tryz.zeroValue116
  t51 := Tryz.underlying132
  a51 := Tryz.isAgg132
  z51 := Tryz.sizeOf132
  v51 := Tryz.zeroValue132
  t53 := Tryz.underlying134
  a53 := Tryz.isAgg134
  z53 := Tryz.sizeOf134
  v53 := Tryz.zeroValue134
  t131 := Tryz.underlying59
  a131 := Tryz.isAgg59
  z131 := Tryz.sizeOf59
  v131 := Tryz.zeroValue59
  t182 := Tryz.underlying125
  a182 := Tryz.isAgg125
  z182 := Tryz.sizeOf125
  v182 := Tryz.zeroValue125
  t183 := Tryz.underlying126
  a183 := Tryz.isAgg126
  z183 := Tryz.sizeOf126
  v183 := Tryz.zeroValue126
  t218 := Tryz.underlying137
  a218 := Tryz.isAgg137
  z218 := Tryz.sizeOf137
  v218 := Tryz.zeroValue137
  t222 := Tryz.underlying141
  a222 := Tryz.isAgg141
  z222 := Tryz.sizeOf141
  v222 := Tryz.zeroValue141
  t228 := Tryz.underlying148
  a228 := Tryz.isAgg148
  z228 := Tryz.sizeOf148
  v228 := Tryz.zeroValue148
  t229 := Tryz.underlying149
  a229 := Tryz.isAgg149
  z229 := Tryz.sizeOf149
  v229 := Tryz.zeroValue149 }
def Tryz.sortFI_ren : Go.Shelf.Ren := ⟨fun | 6 => 89 | 15 => 88 | 14 => 112 | 28 => 110 | 29 => 111 | 20 => 99 | 21 => 124 | 22 => 125 | 23 => 126 | 24 => 127 | 25 => 128 | 26 => 129 | 27 => 130 | 46 => 135 | 47 => 120 | 48 => 121 | 49 => 136 | 50 => 137 | 57 => 139 | n => n, fun | 22 => 25 | 24 => 3 | 25 => 78 | 3 => 3 | 39 => 116 | 0 => 0 | 53 => 132 | 55 => 134 | 4 => 4 | 46 => 126 | 45 => 125 | 50 => 59 | 5 => 5 | 9 => 9 | 66 => 137 | 70 => 141 | 76 => 148 | 77 => 149 | n => n, fun | n => n⟩
theorem Tryz.sortFI : Go.Proofs.SlLaysF.n6 Tryz.prog Tryz.sortFI_ren := {
  mixed := by kernel_rfl
  f6 := ⟨Tryz.f89.name, by decide, Tryz.func89.trans (congrArg some (by kernel_rfl))⟩
  f14 := ⟨Tryz.f112.name, by decide, Tryz.func112.trans (congrArg some (by kernel_rfl))⟩
  f15 := Tryz.func88.trans (congrArg some (by kernel_rfl))
  f20 := ⟨Tryz.f99.name, by decide, Tryz.func99.trans (congrArg some (by kernel_rfl))⟩
  f21 := ⟨Tryz.f124.name, by decide, Tryz.func124.trans (congrArg some (by kernel_rfl))⟩
  f22 := ⟨Tryz.f125.name, by decide, Tryz.func125.trans (congrArg some (by kernel_rfl))⟩
  f23 := ⟨Tryz.f126.name, by decide, Tryz.func126.trans (congrArg some (by kernel_rfl))⟩
  f24 := ⟨Tryz.f127.name, by decide, Tryz.func127.trans (congrArg some (by kernel_rfl))⟩
  f25 := ⟨Tryz.f128.name, by decide, Tryz.func128.trans (congrArg some (by kernel_rfl))⟩
  f26 := ⟨Tryz.f129.name, by decide, Tryz.func129.trans (congrArg some (by kernel_rfl))⟩
  f27 := ⟨Tryz.f130.name, by decide, Tryz.func130.trans (congrArg some (by kernel_rfl))⟩
  f28 := Tryz.func110.trans (congrArg some (by kernel_rfl))
  f29 := Tryz.func111.trans (congrArg some (by kernel_rfl))
  f46 := ⟨Tryz.f135.name, by decide, Tryz.func135.trans (congrArg some (by kernel_rfl))⟩
  f47 := Tryz.func120.trans (congrArg some (by kernel_rfl))
  f48 := Tryz.func121.trans (congrArg some (by kernel_rfl))
  f49 := ⟨Tryz.f136.name, by decide, Tryz.func136.trans (congrArg some (by kernel_rfl))⟩
  f50 := ⟨Tryz.f137.name, by decide, Tryz.func137.trans (congrArg some (by kernel_rfl))⟩
  f57 := ⟨Tryz.f139.name, by decide, Tryz.func139.trans (congrArg some (by kernel_rfl))⟩
  t0 := Tryz.underlying0
  a0 := Tryz.isAgg0
  z0 := Tryz.sizeOf0
  v0 := Tryz.zeroValue0
  t3 := Tryz.underlying3
  a3 := Tryz.isAgg3
  z3 := Tryz.sizeOf3
  v3 := Tryz.zeroValue3
  t4 := Tryz.underlying4
  a4 := Tryz.isAgg4
  z4 := Tryz.sizeOf4
  v4 := Tryz.zeroValue4
  t5 := Tryz.underlying5
  a5 := Tryz.isAgg5
  z5 := Tryz.sizeOf5
  v5 := Tryz.zeroValue5
  t9 := Tryz.underlying9
  a9 := Tryz.isAgg9
  z9 := Tryz.sizeOf9
  v9 := Tryz.zeroValue9
  t22 := Tryz.underlying25
  a22 := Tryz.isAgg25
  z22 := Tryz.sizeOf25
  v22 := Tryz.zeroValue25
  a24 := Tryz.isAgg3
  z24 := Tryz.sizeOf3
  t25 := Tryz.underlying78
  a25 := Tryz.isAgg78
  z25 := Tryz.sizeOf78
  v25 := Tryz.zeroValue78
  t39 := Tryz.underlying116
  a39 := Tryz.isAgg116
  z39 := Tryz.sizeOf116
  v39 := Tryz.zeroValue116
  t45 := Tryz.underlying125
  a45 := Tryz.isAgg125
  z45 := Tryz.sizeOf125
  v45 := Tryz.zeroValue125
  t46 := Tryz.underlying126
  a46 := Tryz.isAgg126
  z46 := Tryz.sizeOf126
  v46 := Tryz.zeroValue126
  t50 := Tryz.underlying59
  a50 := Tryz.isAgg59
  z50 := Tryz.sizeOf59
  v50 := Tryz.zeroValue59
  t53 := Tryz.underlying132
  a53 := Tryz.isAgg132
  z53 := Tryz.sizeOf132
  v53 := Tryz.zeroValue132
  t55 := Tryz.underlying134
  a55 := Tryz.isAgg134
  z55 := Tryz.sizeOf134
  v55 := Tryz.zeroValue134
  t66 := Tryz.underlying137
  a66 := Tryz.isAgg137
  z66 := Tryz.sizeOf137
  v66 := Tryz.zeroValue137
  t70 := Tryz.underlying141
  a70 := Tryz.isAgg141
  z70 := Tryz.sizeOf141
  v70 := Tryz.zeroValue141
  t76 := Tryz.underlying148
  a76 := Tryz.isAgg148
  z76 := Tryz.sizeOf148
  v76 := Tryz.zeroValue148
  t77 := Tryz.underlying149
  a77 := Tryz.isAgg149
  z77 := Tryz.sizeOf149
  v77 := Tryz.zeroValue149 }
end Go.Proofs.YtcillieggklaaaaGreat
/- Runs of equal elements cut to one. -/
namespace Go.Pl
set_option linter.all false
def ddF {α : Type} (eq : α → α → Bool) : α → List α → List α
  | _, [] => []
  | p, x :: l => bif eq x p then ddF eq x l else x :: ddF eq x l
def compL {α : Type} (eq : α → α → Bool) : List α → List α
  | [] => []
  | x :: l => x :: ddF eq x l
def lastD {α : Type} : α → List α → α
  | p, [] => p
  | _, x :: l => lastD x l
theorem ddF_snoc {α : Type} (eq : α → α → Bool) (y : α) : ∀ (l : List α) (p : α), ddF eq p (l ++ [y]) = ddF eq p l ++ bif eq y (lastD p l) then [] else [y]
  | [], p => by simp [ddF, lastD]
  | x :: l, p => by
    simp only [List.cons_append, ddF, lastD, ddF_snoc eq y l x]
    cases eq x p <;> simp
theorem lastD_get {α : Type} : ∀ (l : List α) (p : α) , (p :: l)[l.length]? = some (lastD p l)
  | [], p => rfl
  | x :: l, p => by simpa [lastD] using lastD_get l x
theorem ddF_len {α : Type} (eq : α → α → Bool) : ∀ (l : List α) (p : α), (ddF eq p l).length ≤ l.length
  | [], _ => by simp [ddF]
  | x :: l, p => by
    have := ddF_len eq l x
    simp only [ddF, List.length_cons]; cases eq x p <;> simp <;> omega
theorem compL_len {α : Type} (eq : α → α → Bool) (l : List α) : (compL eq l).length ≤ l.length := by
  cases l with
  | nil => simp [compL]
  | cons x l => have := ddF_len eq l x; simp [compL]; omega
/-- one element more -/
theorem compL_take {α : Type} (eq : α → α → Bool) (l : List α) (n : Nat) (h0 : 0 < n) (h : n < l.length) : compL eq (l.take (n + 1)) = compL eq (l.take n) ++ bif eq l[n] l[n - 1] then [] else [l[n]] := by
  cases l with
  | nil => simp at h
  | cons x l =>
    obtain ⟨m, rfl⟩ : ∃ m, n = m + 1 := ⟨n - 1, by omega⟩
    have hm : m < l.length := by simpa using h
    rw [List.take_succ_cons, List.take_succ_cons]
    simp only [compL]
    rw [List.take_succ_eq_append_getElem hm, ddF_snoc]
    have hl : lastD x (l.take m) = (x :: l)[m]'(by simp; omega) := by
      have h1 := lastD_get (l.take m) x
      have e : (l.take m).length = m := by simp; omega
      rw [e, ← List.take_succ_cons, List.getElem?_take, if_pos (by omega), List.getElem?_eq_getElem (by simp; omega)] at h1
      exact (Option.some.inj h1).symm
    rw [hl]
    simp
theorem compL_len_lt {α : Type} (eq : α → α → Bool) (l : List α) (n : Nat) (h0 : 0 < n) (h : n < l.length) (he : eq l[n] l[n - 1] = true) (j : Nat) (hj : n < j) (hjl : j ≤ l.length) : (compL eq (l.take j)).length < j := by
  obtain ⟨d, rfl⟩ : ∃ d, j = n + 1 + d := ⟨j - (n + 1), by omega⟩
  clear hj
  induction d with
  | zero =>
    rw [Nat.add_zero, compL_take eq l n h0 h, he, cond_true, List.append_nil]
    have := compL_len eq (l.take n)
    simp at this; omega
  | succ d ih =>
    have := ih (by omega)
    rw [← Nat.add_assoc, compL_take eq l (n + 1 + d) (by omega) (by omega), List.length_append]
    cases eq l[n + 1 + d] l[n + 1 + d - 1] <;> simp <;> omega
theorem compL_one {α : Type} (eq : α → α → Bool) (l : List α) (h : 0 < l.length) : compL eq (l.take 1) = l.take 1 := by
  cases l with
  | nil => simp at h
  | cons x l => simp [compL, ddF]
/-- writing at the end of what is kept -/
theorem set_kept {α : Type} (c l : List α) (x : α) (h : c.length < l.length) : (c ++ l.drop c.length).set c.length x = (c ++ [x]) ++ l.drop (c ++ [x]).length := by
  have e := List.drop_eq_getElem_cons h
  rw [List.set_append, if_neg (by omega), Nat.sub_self, e, List.set_cons_zero]
  simp
theorem kept_get {α : Type} (c l : List α) (j : Nat) (h : c.length ≤ j) : (c ++ l.drop c.length)[j]? = l[j]? := by
  rw [List.getElem?_append, if_neg (by omega), List.getElem?_drop]; congr 1; omega
theorem kept_len {α : Type} (c l : List α) (h : c.length ≤ l.length) : (c ++ l.drop c.length).length = l.length := by simp; omega
end Go.Pl
/- The kit's contract of slices.SortFunc, turned into one of the engine's. -/
namespace Go.RT
open Go Go.Proofs Go.Sort Go.Shelf
set_option linter.all false
theorem Mem.reheap {C : Cx} {H H' : Hp} {nx : Nat} {S : Nat → Prop} {m : Ids} {w : World} (k1 : Mem C H nx S m w) (hh : ∀ id, hlook H' id = hlook H id) : Mem C H' nx S m w :=
  ⟨k1.os, k1.tape, k1.output, k1.fz, k1.size, k1.frame, k1.le, k1.sub, k1.n0, fun id o h => k1.objs id o ((hh id).symm.trans h), fun id o b h => k1.blk id o b ((hh id).symm.trans h), fun a b o1 o2 bb h1 h2 => k1.inj a b o1 o2 bb ((hh a).symm.trans h1) ((hh b).symm.trans h2), k1.stab, k1.fresh, k1.nkeep (Le.refl _ _ _) (Nat.le_refl _) (fun _ _ _ _ _ _ h => h.of fun o h => (hh _).symm.trans h) (fun _ _ _ _ _ _ _ c e _ _ _ k2 k3 => ⟨c, e, k2, k3⟩) (fun b' _ h2 h3 => ⟨rfl, h2, fun id2 o2 h => h3 _ _ ((hh id2).symm.trans h)⟩)⟩
def grown (w : World) (os : Array Obj) (q : Nat) : World := { w with heap := w.heap ++ os, drawn := w.drawn + q }
theorem grown_old (w : World) (os : Array Obj) (q : Nat) {b : Nat} (hb : b < w.heap.size) : (grown w os q).heap[b]? = w.heap[b]? := by simp [grown, Array.getElem?_append, hb]
theorem Mem.grow {C : Cx} {H : Hp} {nx : Nat} {S : Nat → Prop} {m : Ids} {w : World} (hm : Mem C H nx S m w) (os : Array Obj) (q : Nat) : Mem C H nx S m (grown w os q) ∧ Le S m w S m (grown w os q) := by
  have hsz : w.heap.size ≤ (grown w os q).heap.size := by simp [grown]
  have hle : Le S m w S m (grown w os q) := by
    refine ⟨fun _ h => h, fun b hb => grown_old w os q (hm.stab b hb), fun _ _ h => h, fun b n ⟨c, e, fr, h1, h2⟩ => ⟨c, e, fr, ?_, h2⟩⟩
    rw [grown_old w os q (Array.getElem?_eq_some_iff.1 h1).1]; exact h1
  refine ⟨hm.step hle ⟨rfl, Nat.le_add_right _ _⟩ rfl rfl (fun a ha => ?_) hsz (fun b hb _ => grown_old w os q (Nat.lt_of_lt_of_le hb hm.size)) (fun b hb => .inl hb) (fun id o ho => (hm.objs id o ho).mono hle fun b hb => grown_old w os q (hm.blk id o b ho hb).2.1)
    (fun id o b ho hb => ?_) hm.inj (fun b hb => Nat.lt_of_lt_of_le (hm.stab b hb) hsz) hm.fresh (hm.nkeep hle hsz (fun _ _ _ _ _ _ h => h) (fun id sz i j isz irows b2 c2 e2 u _ _ q2 q3 => ⟨c2, e2, (grown_old w os q (Array.getElem?_eq_some_iff.1 q2).1).trans q2, q3⟩) (fun b' h1 h2 h3 => ⟨grown_old w os q h1, h2, h3⟩)), hle⟩
  · simp only [World.frozen?, grown_old w os q ha]
  · obtain ⟨h1, h2, h3⟩ := hm.blk id o b ho hb
    exact ⟨h1, Nat.lt_of_lt_of_le h2 hsz, h3⟩
theorem mapBlock_setRow {w : World} {b : Nat} {c : Array Value} {e : TypeId} {fr : Nat × Nat} (f : Array Value → Array Value) (hc : w.heap[b]? = some (.cells c e fr)) : mapBlock w b f = w.setRow b (f c) := by
  unfold mapBlock World.setRow
  congr 1
  apply Array.ext_getElem?
  intro i
  simp only [Array.getElem?_modify]
  by_cases h : b = i
  · subst h
    simp [hc, onCells]
  · simp [h]
/-- a run that owns nothing: what it leaves is the world it found, grown -/
theorem Mem.is_grown {C : Cx} {nx : Nat} {S : Nat → Prop} {m : Ids} {w : World} (hm : Mem C [] nx S m w) (ho : ∀ b, ¬ C.own0 b) : ∃ q os, w = grown C.w0 os q := by
  refine ⟨w.drawn - C.w0.drawn, w.heap.extract C.w0.heap.size w.heap.size, ?_⟩
  have h1 : w.heap = C.w0.heap ++ w.heap.extract C.w0.heap.size w.heap.size := by
    apply Array.ext_getElem?
    intro i
    by_cases hi : i < C.w0.heap.size
    · rw [Array.getElem?_append_left hi]; exact hm.frame i hi (ho i)
    · rw [Array.getElem?_append_right (by omega), Array.getElem?_extract]
      have := hm.size
      by_cases h2 : i < w.heap.size
      · rw [if_pos (by simp; omega)]; congr 1; omega
      · rw [if_neg (by simp; omega)]; exact Array.getElem?_eq_none (by omega)
  have h2 : w.drawn = C.w0.drawn + (w.drawn - C.w0.drawn) := by have := hm.os.2; omega
  obtain ⟨heap, tape, drawn, os, output⟩ := w
  unfold grown
  simp only at h1 h2
  have e1 := hm.tape; have e2 := hm.os.1; have e3 := hm.output
  simp only at e1 e2 e3
  subst e1 e2 e3
  simp only [World.mk.injEq, true_and, and_true]
  exact ⟨h1, h2⟩
/-- what slices.SortFunc leaves -/
def sortBy {β : Type} [Inhabited β] (cf : β → β → Int) (l : List β) : List β := (pdq (ltOf cf) l.toArray 0 l.length (Lib.bitLen l.length) true true).toList
theorem sortBy_spec {β : Type} [Inhabited β] (cf : β → β → Int) (hO : SWO (ltOf cf)) (l : List β) : (sortBy cf l).Perm l ∧ (sortBy cf l).length = l.length ∧ ∀ (i j : Nat) (x y : β), i < j → (sortBy cf l)[i]? = some x → (sortBy cf l)[j]? = some y → ¬ cf y x < 0 := by
  have h := pdq_sorts (ltOf cf) hO l.toArray 0 l.length (Lib.bitLen l.length) true true (Nat.zero_le _) (by simp) (Or.inl rfl)
  obtain ⟨⟨p1, p2, p3⟩, p4⟩ := h
  have e : (sortBy cf l).length = l.length := by simpa [sortBy] using p1
  refine ⟨?_, e, fun i j x y hij hx hy => ?_⟩
  · have : ∀ (a : Array β) n, a.size = n → a.extract 0 n = a := fun a n hn => by subst hn; simp
    rw [this _ _ (by simpa using p1), this _ _ (by simp)] at p3
    simpa [sortBy] using p3
  · have hj : j < l.length := by rw [← e]; exact (List.getElem?_eq_some_iff.1 hy).1
    have hj' : j < (pdq (ltOf cf) l.toArray 0 l.length (Lib.bitLen l.length) true true).size := by rw [p1]; simpa using hj
    have := p4 i j (Nat.zero_le _) hij hj
    rw [getElem!_pos _ j hj', getElem!_pos _ i (by omega)] at this
    simp only [sortBy, Array.getElem?_toList] at hx hy
    rw [Array.getElem?_eq_getElem (by omega)] at hx hy
    cases hx; cases hy
    simpa [ltOf] using this
variable {P : Program} {ρ : Ren}
end Go.RT
/- The kit's contract of slices.Sort at []int, turned into one of the engine's. -/
namespace Go.RT
open Go Go.Proofs Go.Sort Go.Shelf
set_option linter.all false
variable {P : Program} {ρ : Ren}
def srtI (l : List Int) : List Int := l.mergeSort fun x y => decide (x ≤ y)
theorem srtI_len (l : List Int) : (srtI l).length = l.length := List.length_mergeSort l
theorem srtI_perm (l : List Int) : (srtI l).Perm l := List.mergeSort_perm l _
theorem srtI_sorted (l : List Int) : (srtI l).Pairwise (fun x y => x ≤ y) := by
  have := List.pairwise_mergeSort (le := fun x y : Int => decide (x ≤ y)) (fun a b c h1 h2 => by simp at h1 h2 ⊢; omega) (fun a b => by simp; omega) l
  exact this.imp (fun h => by simpa using h)
theorem sortI_meets (L : Lays.n189 P ρ) {l : List Int} (hl : l.length < 4611686018427387904) :
    Meets P (ρ.f 189) [.sl 0 1 0 l.length] 1 [(0, some (.flat 1 (l.map fun x => [If .i64 x])))] (.fz (.tup [])) [(0, some (.flat 1 ((srtI l).map fun x => [If .i64 x])))] 1 := by
  refine ⟨fun C vs hn hm hlv hr => ?_⟩
  have tupR : ∀ w' S' m', Rep w' S' m' (.tuple #[]) (.fz (.tup [])) := fun w' S' m' => .fz _ _ (.tup #[] [] rfl (fun i c f hc => by simp at hc))
  match vs, hlv, hr with
  | [v0], _, hr =>
  have r0 := hr 0 v0 _ rfl rfl
  have ho := hm.objs 0 _ rfl
  have hs2 := srtI_len l
  generalize hll : l.length = n at r0 hl
  cases r0 with
  | sl0 =>
    have : l = [] := List.length_eq_zero_iff.1 hll
    subst this
    have e : srtI ([] : List Int) = [] := List.length_eq_zero_iff.1 hs2
    rw [e]
    refine (Any.slices_Sort_int_none L none 0 C.w0).mono fun e w' ⟨he, hw⟩ => ?_
    subst hw
    exact ⟨_, _, _, he, hm, tupR _ _ _⟩
  | sl _ _ _ _ b cap h hroom hcap hmx =>
    rcases ho with ⟨h2, _⟩ | ⟨b', c, e, h2, h3, h4⟩
    · rw [h] at h2; cases h2
    · rw [h] at h2; cases h2
      obtain ⟨hsz, _, hR⟩ := h4
      obtain ⟨hb1, hb2, hb3⟩ := hm.blk 0 _ b rfl h
      have hcl : ∀ j (hj : j < l.length), c[j]? = some (.int .i64 l[j]) := fun j hj => by
        obtain ⟨u, hu, _, hf⟩ := hR j 0 [If .i64 l[j]] (If .i64 l[j]) (by simp [hj]) rfl
        cases hf
        simpa using hu
      have hH : Holds (Value.int .i64) C.w0 b (0 * 1) l.toArray := by
        intro j hj
        simp at hj
        refine ⟨?_, ?_⟩
        · simp only [World.cell?, h3, Nat.zero_mul, Nat.zero_add]
          rw [getElem!_pos _ j (by simpa using hj)]
          simpa using hcl j hj
        · simp [World.frozen?, h3]
      have hcall := Any.slices_Sort_int L b (0 * 1) cap l C.w0 hH hb2 (by rw [hll]; exact hl)
      rw [hll] at hcall
      refine hcall.mono fun ex w' ⟨he, q, os, hw⟩ => ?_
      subst hw
      have hset : grow (putRow (Value.int .i64) (Go.Sort.ahead C.w0 q) b (0 * 1) (srtI l).toArray) os = grown (C.w0.setRow b (putCells (Value.int .i64) 0 (srtI l).toArray c)) os q := by
        unfold putRow
        rw [mapBlock_setRow (w := Go.Sort.ahead C.w0 q) (b := b) (c := c) (e := e) (fr := (0, 0)) _ h3, Nat.zero_mul]
        rfl
      have hset2 : grow (putRow (Value.int .i64) (Go.Sort.ahead C.w0 q) b (0 * 1) (l.mergeSort fun x y => decide (x ≤ y)).toArray) os = grown (C.w0.setRow b (putCells (Value.int .i64) 0 (srtI l).toArray c)) os q := hset
      rw [hset2]
      have hps : (putCells (Value.int .i64) 0 (srtI l).toArray c).size = c.size := by simp [putCells]
      have hrr : ∀ w' : World, RowsRep (FRep w' C.S0) (putCells (Value.int .i64) 0 (srtI l).toArray c) 1 ((srtI l).map fun x => [If .i64 x]) := fun w' => by
        refine ⟨by rw [hps]; simpa [hs2] using hsz, fun r hr => ?_, fun i j r p hi hj => ?_⟩
        · obtain ⟨x, _, rfl⟩ := List.mem_map.1 hr
          rfl
        · rw [List.getElem?_map] at hi
          obtain ⟨x, hx, rfl⟩ := Option.map_eq_some_iff.1 hi
          have hin : i < (srtI l).length := (List.getElem?_eq_some_iff.1 hx).1
          match j, hj with
          | 0, hj =>
            cases hj
            have hlt2 : i < c.size := by simp at hsz; omega
            refine ⟨.int .i64 x, ?_, rfl, .lit _⟩
            unfold putCells
            rw [Nat.mul_one, Nat.add_zero, Array.getElem?_mapIdx, Array.getElem?_eq_getElem hlt2]
            simp only [Option.map_some, Nat.zero_le, true_and, Nat.zero_add, List.size_toArray, Nat.sub_zero]
            rw [if_pos hin, getElem!_pos _ i (by simpa using hin)]
            rw [List.getElem?_eq_getElem hin] at hx
            cases hx; simp
          | j + 1, hj => simp at hj
      obtain ⟨m1, hle1⟩ := hm.write (id := 0) (o' := .flat 1 ((srtI l).map fun x => [If .i64 x])) rfl h h3 hps (plain_hown (by exact trivial)) (fun w' hle hb => .inr ⟨b, _, e, h, hb, hrr w'⟩)
      refine ⟨_, _, _, he, ((m1.reheap (H' := [(0, some (.flat 1 ((srtI l).map fun x => [If .i64 x])))]) (fun id => ?_)).grow os q).1, tupR _ _ _⟩
      simp only [hlook]
      cases Nat.beq 0 id <;> rfl
end Go.RT
/- The nodes to which edges lead: sorted and cut, or put in one by one. -/
namespace Go.Pl
open Go.RT
set_option linter.all false
abbrev eqI (x y : Int) : Bool := decide (x = y)
def tosL (n : Int) (l : List Edg) : List Int := (l.filter fun e => decide (e.f = n)).map (·.t)
def Asc (l : List Int) : Prop := l.Pairwise (fun x y => x < y)
theorem Asc.ext : ∀ {a b : List Int}, Asc a → Asc b → (∀ p, p ∈ a ↔ p ∈ b) → a = b
  | [], [], _, _, _ => rfl
  | [], y :: b, _, _, h => by have := (h y).2 (List.mem_cons_self ..); cases this
  | x :: a, [], _, _, h => by have := (h x).1 (List.mem_cons_self ..); cases this
  | x :: a, y :: b, ha, hb, h => by
    obtain ⟨a1, a2⟩ := List.pairwise_cons.1 ha
    obtain ⟨b1, b2⟩ := List.pairwise_cons.1 hb
    have e : x = y := by
      rcases List.mem_cons.1 ((h x).1 (List.mem_cons_self ..)) with e | h1
      · exact e
      · rcases List.mem_cons.1 ((h y).2 (List.mem_cons_self ..)) with e | h2
        · exact e.symm
        · have := b1 x h1; have := a1 y h2; omega
    subst e
    refine congrArg _ (Asc.ext a2 b2 fun p => ?_)
    constructor
    · intro hp
      rcases List.mem_cons.1 ((h p).1 (List.mem_cons_of_mem _ hp)) with e | h1
      · subst e; have := a1 p hp; omega
      · exact h1
    · intro hp
      rcases List.mem_cons.1 ((h p).2 (List.mem_cons_of_mem _ hp)) with e | h1
      · subst e; have := b1 p hp; omega
      · exact h1
theorem ddF_asc : ∀ (l : List Int) (p : Int), (p :: l).Pairwise (fun x y => x ≤ y) → Asc (p :: ddF eqI p l) ∧ ∀ x, x ∈ p :: ddF eqI p l ↔ x ∈ p :: l
  | [], p, _ => ⟨by simp [Asc, ddF], fun x => by simp [ddF]⟩
  | y :: l, p, h => by
    obtain ⟨h1, h2⟩ := List.pairwise_cons.1 h
    obtain ⟨i1, i2⟩ := ddF_asc l y h2
    have hpy := h1 y (List.mem_cons_self ..)
    simp only [ddF]
    by_cases e : y = p
    · subst e
      simp only [eqI, decide_true, cond_true]
      refine ⟨i1, fun x => ?_⟩
      rw [i2]; simp
    · have : eqI y p = false := by simp [eqI, e]
      rw [this, cond_false]
      refine ⟨List.pairwise_cons.2 ⟨fun z hz => ?_, i1⟩, fun x => ?_⟩
      · have := (i2 z).1 hz
        rcases List.mem_cons.1 this with rfl | hz
        · omega
        · have := (List.pairwise_cons.1 h2).1 z hz; omega
      · rw [List.mem_cons, i2, List.mem_cons]; simp
theorem comp_asc {l : List Int} (h : l.Pairwise (fun x y => x ≤ y)) : Asc (compL eqI l) ∧ ∀ x, x ∈ compL eqI l ↔ x ∈ l := by
  cases l with
  | nil => exact ⟨by simp [Asc, compL], fun x => by simp [compL]⟩
  | cons p l => exact ddF_asc l p h
def nextI (n : Int) (l : List Edg) : List Int := compL eqI (srtI (tosL n l))
theorem nextI_spec (n : Int) (l : List Edg) : Asc (nextI n l) ∧ ∀ x, x ∈ nextI n l ↔ ∃ e ∈ l, e.f = n ∧ e.t = x := by
  obtain ⟨h1, h2⟩ := comp_asc (srtI_sorted (tosL n l))
  refine ⟨h1, fun x => ?_⟩
  show x ∈ compL eqI _ ↔ _
  rw [h2, (srtI_perm _).mem_iff]
  simp [tosL, and_assoc]
end Go.Pl
/- The heap, on lists: what the program's loops make. -/
namespace Go.Pl
open Go Go.RT
set_option linter.all false
abbrev encT (x : Nat) : List FV := [If .i64 (x : Int)]
structure Hq where
  it : List Nat
  pl : List Int
  ky : List Int
def Hq.item (h : Hq) (i : Nat) : Nat := h.it.getD i 0
def Hq.key (h : Hq) (v : Nat) : Int := h.ky.getD v 0
/-- items are nodes -/
structure Hq.Ok (h : Hq) : Prop where
  len : h.pl.length = h.ky.length
  lt : ∀ v ∈ h.it, v < h.pl.length
theorem Hq.Ok.item {h : Hq} (o : h.Ok) {i : Nat} (hi : i < h.it.length) : h.item i < h.pl.length := by
  unfold Hq.item; rw [List.getD_eq_getElem?_getD, List.getElem?_eq_getElem hi]; exact o.lt _ (List.getElem_mem hi)
def lessH (h : Hq) (i j : Nat) : Bool := decide (h.key (h.item i) < h.key (h.item j)) || decide (h.key (h.item i) = h.key (h.item j)) && decide ((h.item i : Int) < (h.item j : Int))
def swapH (h : Hq) (i j : Nat) : Hq := ⟨(h.it.set i (h.item j)).set j (h.item i), (h.pl.set (h.item j) i).set (h.item i) j, h.ky⟩
theorem swapH_len (h : Hq) (i j : Nat) : (swapH h i j).it.length = h.it.length ∧ (swapH h i j).pl.length = h.pl.length ∧ (swapH h i j).ky = h.ky := by simp [swapH]
theorem Hq.Ok.swap {h : Hq} (o : h.Ok) {i j : Nat} (hi : i < h.it.length) (hj : j < h.it.length) : (swapH h i j).Ok := by
  refine ⟨by simp [swapH, o.len], fun v hv => ?_⟩
  simp only [swapH, List.length_set]
  rcases List.mem_or_eq_of_mem_set hv with h1 | rfl
  · rcases List.mem_or_eq_of_mem_set h1 with h2 | rfl
    · exact o.lt v h2
    · exact o.item hj
  · exact o.item hi
def upH (h : Hq) (i : Nat) : Hq × Nat :=
  if hi : 0 < i then (if lessH h i ((i - 1) / 2) = true then upH (swapH h i ((i - 1) / 2)) ((i - 1) / 2) else (h, i)) else (h, i)
termination_by i
decreasing_by omega
/-- the child that comes first -/
def kidH (h : Hq) (i n : Nat) : Nat := if 2 * i + 1 + 1 < n ∧ lessH h (2 * i + 1 + 1) (2 * i + 1) = true then 2 * i + 1 + 1 else 2 * i + 1
theorem kidH_gt (h : Hq) (i n : Nat) : i < kidH h i n := by unfold kidH; split <;> omega
def downH (h : Hq) (i n : Nat) : Hq :=
  if hk : kidH h i n < n then (if lessH h (kidH h i n) i = true then downH (swapH h i (kidH h i n)) (kidH h i n) n else h) else h
termination_by n - i
decreasing_by have := kidH_gt h i n; omega
def settleH (h : Hq) (i n : Nat) : Hq := downH (upH h i).1 (upH h i).2 n
end Go.Pl
namespace Go.Pl
theorem up_step {h : Hq} {i : Nat} (hi : 0 < i) (hl : lessH h i ((i - 1) / 2) = true) : upH h i = upH (swapH h i ((i - 1) / 2)) ((i - 1) / 2) := by
  rw [upH, dif_pos hi, if_pos hl]
theorem up_stop {h : Hq} {i : Nat} (hh : ¬ (0 < i ∧ lessH h i ((i - 1) / 2) = true)) : upH h i = (h, i) := by
  rw [upH]
  by_cases hi : 0 < i
  · rw [dif_pos hi, if_neg (fun e => hh ⟨hi, e⟩)]
  · rw [dif_neg hi]
theorem down_step {h : Hq} {i n : Nat} (hk : kidH h i n < n) (hl : lessH h (kidH h i n) i = true) : downH h i n = downH (swapH h i (kidH h i n)) (kidH h i n) n := by
  rw [downH, dif_pos hk, if_pos hl]
theorem down_stop {h : Hq} {i n : Nat} (hh : ¬ (kidH h i n < n ∧ lessH h (kidH h i n) i = true)) : downH h i n = h := by
  rw [downH]
  by_cases hk : kidH h i n < n
  · rw [dif_pos hk, if_neg (fun e => hh ⟨hk, e⟩)]
  · rw [dif_neg hk]
/-- heaps of one size -/
def Like (h h' : Hq) : Prop := h'.Ok ∧ h'.it.length = h.it.length ∧ h'.pl.length = h.pl.length ∧ h'.ky = h.ky
theorem Like.swap {h h' : Hq} (l : Like h h') {i j : Nat} (hi : i < h.it.length) (hj : j < h.it.length) : Like h (swapH h' i j) := by
  obtain ⟨l1, l2, l3, l4⟩ := l
  obtain ⟨s1, s2, s3⟩ := swapH_len h' i j
  exact ⟨l1.swap (by omega) (by omega), s1.trans l2, s2.trans l3, s3.trans l4⟩
end Go.Pl
namespace Go.Proofs.YtcillieggklaaaaGreat
open Go Go.RT Go.Proofs Go.Pl
set_option linter.all false
set_option maxRecDepth 20000
set_option maxHeartbeats 4000000
abbrev OI (l : List Int) : Option Ob := some (.flat 1 (l.map encN))
abbrev OE (l : List Edg) : Option Ob := some (.flat 3 (l.map encE))
abbrev OT (l : List Nat) : Option Ob := some (.flat 1 (l.map encT))
abbrev HH (h : Hq) : Hp := [(0, some (.refs 3 [[.sl 1 1 0 h.it.length, .sl 2 1 0 h.pl.length, .sl 3 1 0 h.ky.length]])), (1, OT h.it), (2, OI h.pl), (3, OI h.ky)]
theorem row_of {α : Type} (f : α → List FV) (l : List α) (i : Nat) (d : α) (h : i < l.length) : (l.map f)[i]? = some (f (l.getD i d)) := by
 rw [List.getElem?_map, List.getElem?_eq_getElem h, List.getD_eq_getElem?_getD, List.getElem?_eq_getElem h]; rfl
theorem less_c (h : Hq) (o : h.Ok) (i j : Nat) (hi : i < h.it.length) (hj : j < h.it.length) : Meets Tryz.prog 79 [.ptr 0 3 0 0, IV .i64 i, IV .i64 j] 4 (HH h) (BV (lessH h i j)) (HH h) 4 := by
 have ri := row_of encT h.it i 0 hi
 have rj := row_of encT h.it j 0 hj
 have hv := o.item hi
 have hw := o.item hj
 have hol := o.len
 unfold Hq.item at hv hw
 unfold lessH Hq.item
 generalize h.it.getD i 0 = v at *
 generalize h.it.getD j 0 = w at *
 have rv := row_of encN h.ky v 0 (by omega)
 have rw_ := row_of encN h.ky w 0 (by omega)
 unfold Hq.key
 generalize h.ky.getD v 0 = a at *
 generalize h.ky.getD w 0 = b at *
 refine Meets.intro Tryz.func79 rfl (Nat.le_of_ble_eq_true rfl) fun C hC => ?_
 simp only [List.map, argEnv, Nat.reduceAdd]
 refine nK2 ?_
 refine zb ?_
 refine ze ?_
 refine zc ?_
 refine nK2 ?_
 refine s_draw mixed ?_
 refine za ?_
 refine zba ?_
 refine zg ?_
 refine zy ?_
 refine za ?_
 refine zbv ?_
 refine zh ?_
 refine za ?_
 refine zba ?_
 refine zg ?_
 refine zy ?_
 refine za ?_
 refine zbv ?_
 refine zh ?_
 refine zd ?_
 refine zd ?_
 refine zs ?_
 refine nK2 ?_
 refine s_draw mixed ?_
 refine za ?_
 refine zba ?_
 refine zg ?_
 refine zy ?_
 refine za ?_
 refine zbv ?_
 refine zh ?_
 refine za ?_
 refine zba ?_
 refine zg ?_
 refine zy ?_
 refine za ?_
 refine zbv ?_
 refine zh ?_
 refine zp ?_
 refine za ?_
 refine zf ?_
 refine zcm ?_
 refine zcq ?_
 refine zcr ?_
 refine zf ?_
 refine zdh ?_
 refine zm ?_
 refine zf ?_
 refine zcm ?_
 refine zcq ?_
 refine zcr ?_
 refine zf ?_
 refine zdh ?_
 refine zm ?_
 refine zbo ?_
 refine zbp ?_
 refine zf ?_
 refine zf ?_
 refine zbk ?_
 refine zcf ?_
 refine zv ?_
 refine zd ?_
 refine zs ?_
 refine nK2 ?_
 refine Next.weak [0, 1, 2, 3] [] (by rfl) (keepsN hC _ rfl) (G' := [(6, .fz _)]) (H' := HH h) wG wR wN ?_
 exact n_out1 rfl (by rfl) rfl rfl
theorem swap_c (h : Hq) (o : h.Ok) (i j : Nat) (hi : i < h.it.length) (hj : j < h.it.length) : Meets Tryz.prog 80 [.ptr 0 3 0 0, IV .i64 i, IV .i64 j] 4 (HH h) (.fz (.tup [])) (HH (swapH h i j)) 4 := by
 have ri := row_of encT h.it i 0 hi
 have rj := row_of encT h.it j 0 hj
 have hv := o.item hi
 have hw := o.item hj
 unfold Hq.item at hv hw
 unfold swapH Hq.item
 have ril : i < (h.it.map encT).length := by rw [List.length_map]; exact hi
 have rjl : j < (h.it.map encT).length := by rw [List.length_map]; exact hj
 generalize h.it.getD i 0 = v at *
 generalize h.it.getD j 0 = w at *
 have rv := row_of encN h.pl v 0 (by omega)
 have rw_ := row_of encN h.pl w 0 (by omega)
 have s1 : ((h.it.map encT).set i (encT w))[j]? = some (if i = j then encT w else encT w) := by
  rw [List.getElem?_set]; by_cases e : i = j
  ·subst e; rw [if_pos rfl, if_pos ril, if_pos rfl]
  rw [if_neg e, if_neg e]; exact rj
 have s2 : (((h.it.map encT).set i (encT w)).set j (encT v))[i]? = some (encT w) := by
  rw [List.getElem?_set]; by_cases e : j = i
  ·subst e
   rw [ri] at rj; injection rj with e2
   rw [if_pos rfl, if_pos (by simpa using ril), e2]
  rw [if_neg e, List.getElem?_set, if_pos rfl, if_pos ril]
 have s3 : (((h.it.map encT).set i (encT w)).set j (encT v))[j]? = some (encT v) := by
  rw [List.getElem?_set, if_pos rfl, if_pos (by simpa using rjl)]
 have s4 : ((h.pl.map encN).set w [If .i64 (i : Int)])[v]? = some (((h.pl.map encN).set w [If .i64 (i : Int)]).getD v []) := by
  rw [List.getD_eq_getElem?_getD, List.getElem?_eq_getElem (by simp; omega)]; rfl
 have l4 : ∀ z : List FV, ((h.pl.map encN).set w [If .i64 (i : Int)])[v]? = some z → z.length = 1 := fun z hz => by
  rcases List.mem_or_eq_of_mem_set (List.mem_of_getElem? hz) with h1 | rfl
  ·obtain ⟨q, _, rfl⟩ := List.mem_map.1 h1; rfl
  rfl
 have l5 := l4 _ s4
 generalize ((h.pl.map encN).set w [If .i64 (i : Int)]).getD v [] = z at *
 simp only [ite_self] at s1
 refine Meets.intro Tryz.func80 rfl (Nat.le_of_ble_eq_true rfl) fun C hC => ?_
 simp only [List.map, argEnv, Nat.reduceAdd]
 refine nK2 ?_
 refine s_draw mixed ?_
 refine za ?_
 refine zba ?_
 refine zg ?_
 refine zy ?_
 refine za ?_
 refine za ?_
 refine zba ?_
 refine zg ?_
 refine zy ?_
 refine za ?_
 refine za ?_
 refine zba ?_
 refine zg ?_
 refine zy ?_
 refine za ?_
 refine zbv ?_
 refine zh ?_
 refine za ?_
 refine zba ?_
 refine zg ?_
 refine zy ?_
 refine za ?_
 refine zbv ?_
 refine zh ?_
 refine zbv ?_
 refine Run.effW (dd := none) rfl rfl (op_store_flat rfl (oT rfl) (oT rfl) tC rfl rfl ri tS) (by first | exact ext_call | exact tE) ?_
 refine zbv ?_
 refine Run.effW (dd := none) rfl rfl (op_store_flat rfl (oT rfl) (oT rfl) tC rfl rfl s1 tS) (by first | exact ext_call | exact tE) ?_
 refine zs ?_
 refine nK2 ?_
 refine nK2 ?_
 refine s_draw mixed ?_
 refine za ?_
 refine zba ?_
 refine zg ?_
 refine zy ?_
 refine za ?_
 refine zba ?_
 refine zg ?_
 refine zy ?_
 refine za ?_
 refine rpZ 41 rfl (op_idx_sl0 i rfl (oT rfl) (oT rfl) tD) ?_
 refine rlZ 42 rfl (op_load1_flat rfl (oT rfl) (by intro _; exact ⟨rfl, s2⟩) rfl) ?_
 refine za ?_
 refine zba ?_
 refine zg ?_
 refine zy ?_
 refine za ?_
 refine zba ?_
 refine zg ?_
 refine zy ?_
 refine za ?_
 refine rpZ 52 rfl (op_idx_sl0 j rfl (oT rfl) (oT rfl) tD) ?_
 refine rlZ 53 rfl (op_load1_flat rfl (oT rfl) (by intro _; exact ⟨rfl, s3⟩) rfl) ?_
 refine za ?_
 refine za ?_
 refine zbv ?_
 refine Run.effW (dd := none) rfl rfl (op_store_flat rfl (oT rfl) (oT rfl) tC rfl rfl rw_ tS) (by first | exact ext_call | exact tE) ?_
 refine zbv ?_
 refine Run.effW (dd := none) rfl rfl (op_store_flat rfl (oT rfl) (oT rfl) tC rfl rfl s4 (Sp.whole _ _ (by rw [l5]; rfl))) (by first | exact ext_call | exact tE) ?_
 refine zs ?_
 refine Next.weak [0, 1, 2, 3] [] (by rfl) (keepsN hC _ rfl) (G' := []) (H' := HH ⟨(h.it.set i w).set j v, (h.pl.set w i).set v j, h.ky⟩) trivial (by exact ⟨ent_same rfl rfl (by simp only [List.length_set]; rfl) tL, ⟨ent_same rfl rfl (flEq rfl (by first | (rw [List.map_set, List.map_set]; done) | (rw [List.map_set, List.map_set]; rfl))) trivial, ⟨ent_same rfl rfl (flEq rfl (by first | (rw [List.map_set, List.map_set]; done) | (rw [List.map_set, List.map_set]; rfl))) trivial, ⟨wS, trivial⟩⟩⟩⟩) wN ?_
 exact n_out0 rfl
open Go Go.RT Go.Proofs Go.Pl
set_option maxRecDepth 20000
set_option maxHeartbeats 4000000
theorem less_i (h : Hq) (o : h.Ok) (a b : Int) (i j : Nat) (ha : a = i) (hb : b = j) (hi : i < h.it.length) (hj : j < h.it.length) : Meets Tryz.prog 79 [.ptr 0 3 0 0, IV .i64 a, IV .i64 b] 4 (HH h) (.fz (.lit (.bool (lessH h i j)))) (HH h) 4 := by
 subst ha; subst hb; exact less_c h o i j hi hj
theorem swap_i (h : Hq) (o : h.Ok) (a b : Int) (i j : Nat) (ha : a = i) (hb : b = j) (hi : i < h.it.length) (hj : j < h.it.length) : Meets Tryz.prog 80 [.ptr 0 3 0 0, IV .i64 a, IV .i64 b] 4 (HH h) (.fz (.tup [])) (HH (swapH h i j)) 4 := by
 subst ha; subst hb; exact swap_c h o i j hi hj
abbrev GS (i n : Nat) : Env := [(0, IV .i64 i), (1, IV .i64 n), (2, .clo 79 [.ptr 0 3 0 0] []), (3, .clo 80 [.ptr 0 3 0 0] [])]
theorem settle_c (h : Hq) (o : h.Ok) (i n : Nat) (hi : i < h.it.length) (hn : n = h.it.length) (hm : n ≤ 2000000) : Meets Tryz.prog 78 [IV .i64 i, IV .i64 n, .clo 79 [.ptr 0 3 0 0] [], .clo 80 [.ptr 0 3 0 0] []] 4 (HH h) (.fz (.tup [])) (HH (settleH h i n)) 4 := by
 refine Meets.intro Tryz.func78 rfl (Nat.le_of_ble_eq_true rfl) fun C hC => ?_
 simp only [List.map, argEnv, Nat.reduceAdd]
 refine nK2 ?_
 refine n_loop (ι := Hq × Nat) (fun s => (GS s.2 n, HH s.1, 4)) (fun s => Like h s.1 ∧ s.2 < h.it.length ∧ upH s.1 s.2 = upH h i) (fun s => s.2) (h, i) ⟨⟨o, rfl, rfl, rfl⟩, hi, rfl⟩ ?_ ?_
 ·refine Next.weak [0, 1, 2, 3] [] (by rfl) (keepsN hC _ rfl) wG wR wN rel_intro
 intro ⟨h', j⟩ ⟨hl, hj, he⟩ K hK
 dsimp only at hl hj he ⊢
 have hl' := hl
 obtain ⟨o', l1, l2, l3⟩ := hl'
 refine nK2 ?_
 refine zb ?_
 refine za ?_
 refine zcg ?_
 refine za ?_
 refine zf ?_
 refine zf ?_
 refine zf ?_
 refine zcz ?_
 refine rgZ 16 rfl rfl tG (op_quo rfl (oO rfl tO) oC tM) ?_
 refine rkZ 17 rfl rfl tG (op_call_read (n := 4) [0, 1, 2, 3] (fun hg => less_i h' o' _ _ j ((j - 1) / 2) rfl (by simp at hg; omega) (by omega) (by omega)) rfl (oO rfl tO) (oS (oO rfl tO) (oS (oO rfl tO) Opds.nil)) rfl rfl (Lent.of rfl rfl (by exact ⟨⟨rfl, rfl, rfl, tL⟩, ⟨rfl, rfl, rfl, trivial⟩, ⟨rfl, rfl, rfl, trivial⟩, ⟨rfl, rfl, rfl, trivial⟩, trivial⟩) rfl) rfl) ?_
 refine zt ?_
 refine zc ?_
 refine nK2 ?_
 refine n_cond _ rfl (fun hb => ?_) (fun hb => ?_)
 ·have hb2 : 0 < j ∧ lessH h' j ((j - 1) / 2) = true := by simpa using hb
  have hst := up_step hb2.1 hb2.2
  refine nK2 ?_
  refine zb ?_
  refine za ?_
  refine za ?_
  refine za ?_
  refine zbx ?_
  refine rpZ 23 rfl (op_quo rfl (oT rfl) oC tM) ?_
  refine Run.eff (dd := some 24) rfl rfl (op_call (n := 4) (n' := 4) [0, 1, 2, 3] (fun _ => swap_i h' o' _ _ j ((j - 1) / 2) rfl (by omega) (by omega) (by omega)) rfl (oT rfl) (oS (oT rfl) (oS (oT rfl) Opds.nil)) rfl rfl (Lent.of rfl rfl (by exact ⟨⟨rfl, rfl, rfl, tL⟩, ⟨rfl, rfl, rfl, trivial⟩, ⟨rfl, rfl, rfl, trivial⟩, ⟨rfl, rfl, rfl, trivial⟩, trivial⟩) rfl) rfl rfl rfl rfl rfl) ?_
  refine zc ?_
  refine nK2 ?_
  refine zb ?_
  refine za ?_
  refine zbx ?_
  refine rpZ 27 rfl (op_quo rfl (oT rfl) oC tM) ?_
  refine zd ?_
  refine zc ?_
  refine nK2 ?_
  refine Next.weak [0, 1, 2, 3] [] (by rfl) (keepsN hC _ rfl) (by exact ⟨⟨_, rfl, .inl ⟨ivEq (by omega), rfl⟩⟩, ⟨_, rfl, .inl ⟨rfl, rfl⟩⟩, ⟨_, rfl, .inl ⟨rfl, rfl⟩⟩, ⟨_, rfl, .inl ⟨rfl, rfl⟩⟩, trivial⟩) wR wN (hK (swapH h' j ((j - 1) / 2), (j - 1) / 2) ⟨hl.swap (by omega) (by omega), by dsimp only; omega, by dsimp only; rw [← hst]; exact he⟩ (by dsimp only; omega))
 have hb2 : ¬ (0 < j ∧ lessH h' j ((j - 1) / 2) = true) := by simpa using hb
 have hst := up_stop hb2
 rw [hst] at he
 have hse : settleH h i n = downH h' j n := by unfold settleH; rw [← he]
 rw [hse]
 refine nK2 ?_
 refine n_loop (ι := Hq × Nat) (fun s => (GS s.2 n, HH s.1, 4)) (fun s => Like h s.1 ∧ s.2 < h.it.length ∧ downH s.1 s.2 n = downH h' j n) (fun s => n - s.2) (h', j) ⟨hl, hj, rfl⟩ ?_ ?_
 ·refine Next.weak [0, 1, 2, 3] [] (by rfl) (keepsN hC _ rfl) wG wR wN rel_intro
 intro ⟨h2, i2⟩ ⟨hl, hj, he⟩ K2 hK
 dsimp only at hl hj he ⊢
 have hl' := hl
 obtain ⟨o2, l1, l2, l3⟩ := hl'
 refine nK2 ?_
 refine zb ?_
 refine za ?_
 refine rpZ 29 rfl (op_mul rfl oC (oT rfl) tI) ?_
 refine zl ?_
 refine zd ?_
 refine zc ?_
 refine nK2 ?_
 refine zb ?_
 refine za ?_
 refine zl ?_
 refine za ?_
 refine zp ?_
 refine za ?_
 refine zf ?_
 refine zf ?_
 refine rgZ 38 rfl rfl tG (op_add rfl (oO rfl tO) oC tI) ?_
 refine zf ?_
 refine rkZ 40 rfl rfl tG (op_call_read (n := 4) [0, 1, 2, 3] (fun hg => less_i h2 o2 _ _ (2 * i2 + 1 + 1) (2 * i2 + 1) (by omega) (by omega) (by simp at hg; omega) (by simp at hg; omega)) rfl (oO rfl tO) (oS (oO rfl tO) (oS (oO rfl tO) Opds.nil)) rfl rfl (Lent.of rfl rfl (by exact ⟨⟨rfl, rfl, rfl, tL⟩, ⟨rfl, rfl, rfl, trivial⟩, ⟨rfl, rfl, rfl, trivial⟩, ⟨rfl, rfl, rfl, trivial⟩, trivial⟩) rfl) rfl) ?_
 refine zt ?_
 refine zc ?_
 refine nK2 ?_
 refine n_cond _ rfl (fun hb => ?_) (fun hb => ?_)
 ·have hb2 : 2 * i2 + 1 + 1 < n ∧ lessH h2 (2 * i2 + 1 + 1) (2 * i2 + 1) = true := by simp at hb; exact ⟨by omega, hb.2⟩
  have hk : kidH h2 i2 n = 2 * i2 + 1 + 1 := by unfold kidH; rw [if_pos hb2]
  refine nK2 ?_
  refine zb ?_
  refine za ?_
  refine zl ?_
  refine zd ?_
  refine zc ?_
  refine nK2 ?_
  refine zb ?_
  refine za ?_
  refine za ?_
  refine zcj ?_
  refine za ?_
  refine zf ?_
  refine zf ?_
  refine zf ?_
  refine rkZ 51 rfl rfl tG (op_call_read (n := 4) [0, 1, 2, 3] (fun hg => less_i h2 o2 _ _ (2 * i2 + 1 + 1) i2 (by omega) rfl (by simp at hg; omega) (by omega)) rfl (oO rfl tO) (oS (oO rfl tO) (oS (oO rfl tO) Opds.nil)) rfl rfl (Lent.of rfl rfl (by exact ⟨⟨rfl, rfl, rfl, tL⟩, ⟨rfl, rfl, rfl, trivial⟩, ⟨rfl, rfl, rfl, trivial⟩, ⟨rfl, rfl, rfl, trivial⟩, trivial⟩) rfl) rfl) ?_
  refine zbl ?_
  refine zv ?_
  refine zc ?_
  refine nK2 ?_
  refine n_cond _ rfl (fun hb => ?_) (fun hb => ?_)
  ·have hst := down_stop (h := h2) (i := i2) (n := n) (by rw [hk]; intro hh; simp [hh.2] at hb; omega)
   rw [hst] at he
   rw [← he]
   refine nK2 ?_
   refine Next.weak [0, 1, 2, 3] [] (by rfl) (keepsN hC _ rfl) (G' := []) (H' := HH h2) trivial wR wN ?_
   exact n_out0 rfl
  have hb3 : 2 * i2 + 1 + 1 < n ∧ lessH h2 (2 * i2 + 1 + 1) i2 = true := by simp at hb; exact ⟨by omega, hb.2⟩
  have hst := down_step (h := h2) (i := i2) (n := n) (by rw [hk]; exact hb3.1) (by rw [hk]; exact hb3.2)
  rw [hk] at hst
  refine nK2 ?_
  refine zb ?_
  refine za ?_
  refine za ?_
  refine za ?_
  refine Run.eff (dd := some 57) rfl rfl (op_call (n := 4) (n' := 4) [0, 1, 2, 3] (fun _ => swap_i h2 o2 _ _ i2 (2 * i2 + 1 + 1) rfl (by omega) (by omega) (by omega)) rfl (oT rfl) (oS (oT rfl) (oS (oT rfl) Opds.nil)) rfl rfl (Lent.of rfl rfl (by exact ⟨⟨rfl, rfl, rfl, tL⟩, ⟨rfl, rfl, rfl, trivial⟩, ⟨rfl, rfl, rfl, trivial⟩, ⟨rfl, rfl, rfl, trivial⟩, trivial⟩) rfl) rfl rfl rfl rfl rfl) ?_
  refine zc ?_
  refine nK2 ?_
  refine zb ?_
  refine za ?_
  refine zd ?_
  refine zc ?_
  refine nK2 ?_
  refine Next.weak [0, 1, 2, 3] [] (by rfl) (keepsN hC _ rfl) (by exact ⟨⟨_, rfl, .inl ⟨ivEq (by omega), rfl⟩⟩, ⟨_, rfl, .inl ⟨rfl, rfl⟩⟩, ⟨_, rfl, .inl ⟨rfl, rfl⟩⟩, ⟨_, rfl, .inl ⟨rfl, rfl⟩⟩, trivial⟩) wR wN (hK (swapH h2 i2 (2 * i2 + 1 + 1), 2 * i2 + 1 + 1) ⟨hl.swap (by omega) (by omega), by dsimp only; omega, by dsimp only; rw [← hst]; exact he⟩ (by dsimp only; omega))
 have hb2 : ¬ (2 * i2 + 1 + 1 < n ∧ lessH h2 (2 * i2 + 1 + 1) (2 * i2 + 1) = true) := by
  simp at hb; intro hh; have := hb (by omega); rw [hh.2] at this; cases this
 have hk : kidH h2 i2 n = 2 * i2 + 1 := by unfold kidH; rw [if_neg hb2]
 refine nK2 ?_
 refine zb ?_
 refine za ?_
 refine za ?_
 refine zcj ?_
 refine za ?_
 refine zf ?_
 refine zf ?_
 refine zf ?_
 refine rkZ 51 rfl rfl tG (op_call_read (n := 4) [0, 1, 2, 3] (fun hg => less_i h2 o2 _ _ (2 * i2 + 1) i2 (by omega) rfl (by simp at hg; omega) (by omega)) rfl (oO rfl tO) (oS (oO rfl tO) (oS (oO rfl tO) Opds.nil)) rfl rfl (Lent.of rfl rfl (by exact ⟨⟨rfl, rfl, rfl, tL⟩, ⟨rfl, rfl, rfl, trivial⟩, ⟨rfl, rfl, rfl, trivial⟩, ⟨rfl, rfl, rfl, trivial⟩, trivial⟩) rfl) rfl) ?_
 refine zbl ?_
 refine zv ?_
 refine zc ?_
 refine nK2 ?_
 refine n_cond _ rfl (fun hb => ?_) (fun hb => ?_)
 ·have hst := down_stop (h := h2) (i := i2) (n := n) (by rw [hk]; intro hh; simp [hh.2] at hb; omega)
  rw [hst] at he
  rw [← he]
  refine nK2 ?_
  refine Next.weak [0, 1, 2, 3] [] (by rfl) (keepsN hC _ rfl) (G' := []) (H' := HH h2) trivial wR wN ?_
  exact n_out0 rfl
 have hb3 : 2 * i2 + 1 < n ∧ lessH h2 (2 * i2 + 1) i2 = true := by simp at hb; exact ⟨by omega, hb.2⟩
 have hst := down_step (h := h2) (i := i2) (n := n) (by rw [hk]; exact hb3.1) (by rw [hk]; exact hb3.2)
 rw [hk] at hst
 refine nK2 ?_
 refine zb ?_
 refine za ?_
 refine za ?_
 refine za ?_
 refine Run.eff (dd := some 57) rfl rfl (op_call (n := 4) (n' := 4) [0, 1, 2, 3] (fun _ => swap_i h2 o2 _ _ i2 (2 * i2 + 1) rfl (by omega) (by omega) (by omega)) rfl (oT rfl) (oS (oT rfl) (oS (oT rfl) Opds.nil)) rfl rfl (Lent.of rfl rfl (by exact ⟨⟨rfl, rfl, rfl, tL⟩, ⟨rfl, rfl, rfl, trivial⟩, ⟨rfl, rfl, rfl, trivial⟩, ⟨rfl, rfl, rfl, trivial⟩, trivial⟩) rfl) rfl rfl rfl rfl rfl) ?_
 refine zc ?_
 refine nK2 ?_
 refine zb ?_
 refine za ?_
 refine zd ?_
 refine zc ?_
 refine nK2 ?_
 refine Next.weak [0, 1, 2, 3] [] (by rfl) (keepsN hC _ rfl) (by exact ⟨⟨_, rfl, .inl ⟨ivEq (by omega), rfl⟩⟩, ⟨_, rfl, .inl ⟨rfl, rfl⟩⟩, ⟨_, rfl, .inl ⟨rfl, rfl⟩⟩, ⟨_, rfl, .inl ⟨rfl, rfl⟩⟩, trivial⟩) wR wN (hK (swapH h2 i2 (2 * i2 + 1), 2 * i2 + 1) ⟨hl.swap (by omega) (by omega), by dsimp only; omega, by dsimp only; rw [← hst]; exact he⟩ (by dsimp only; omega))
end Go.Proofs.YtcillieggklaaaaGreat
namespace Go.Pl
open Go Go.RT
set_option linter.all false
def Hq.place (h : Hq) (v : Nat) : Int := h.pl.getD v 0
/-- items and places fit -/
structure HI (h : Hq) : Prop where
  ok : h.Ok
  at_ : ∀ v, v < h.pl.length → 0 ≤ h.place v → h.place v < h.it.length ∧ h.item (h.place v).toNat = v
  inv : ∀ i, i < h.it.length → h.place (h.item i) = i
def insH (h : Hq) (v : Nat) : Hq := if h.place v < 0 then ⟨h.it ++ [v], h.pl.set v h.it.length, h.ky⟩ else h
def putH (h : Hq) (v : Nat) (k : Int) : Hq := ⟨(insH h v).it, (insH h v).pl, (insH h v).ky.set v k⟩
def setH (h : Hq) (v : Nat) (k : Int) : Hq := settleH (putH h v k) ((putH h v k).place v).toNat (putH h v k).it.length
def cutH (h : Hq) (v : Nat) : Hq :=
  ⟨(swapH h (h.place v).toNat (h.it.length - 1)).it.take (h.it.length - 1), (swapH h (h.place v).toNat (h.it.length - 1)).pl.set v (-1), h.ky⟩
def dropH (h : Hq) (v : Nat) : Hq := if (h.place v).toNat < h.it.length - 1 then settleH (cutH h v) (h.place v).toNat (h.it.length - 1) else cutH h v
theorem getD_set {α : Type} (l : List α) (i j : Nat) (x d : α) (hi : i < l.length) : (l.set i x).getD j d = if i = j then x else l.getD j d := by
  rw [List.getD_eq_getElem?_getD, List.getElem?_set]
  by_cases h : i = j
  · subst h; simp [hi]
  · simp [h, List.getD_eq_getElem?_getD]
theorem getD_app {α : Type} (l : List α) (x d : α) (j : Nat) : (l ++ [x]).getD j d = if j = l.length then x else l.getD j d := by
  rw [List.getD_eq_getElem?_getD, List.getD_eq_getElem?_getD, List.getElem?_append]
  by_cases h : j < l.length
  · rw [if_pos h, if_neg (by omega)]
  · rw [if_neg h]
    by_cases h2 : j = l.length
    · subst h2; simp
    · rw [if_neg h2, List.getElem?_eq_none (by simp; omega), List.getElem?_eq_none (by omega)]
theorem HI.lt {h : Hq} (o : HI h) {v : Nat} (hv : v < h.pl.length) (hp : 0 ≤ h.place v) : (h.place v).toNat < h.it.length := by have := (o.at_ v hv hp).1; omega
theorem HI.ins {h : Hq} (o : HI h) {v : Nat} (hv : v < h.pl.length) : HI (insH h v) ∧ (insH h v).pl.length = h.pl.length ∧ (insH h v).ky = h.ky ∧ 0 ≤ (insH h v).place v ∧ (insH h v).it.length ≤ h.it.length + 1 := by
  unfold insH
  by_cases hp : h.place v < 0
  · rw [if_pos hp]
    have e1 : ∀ w, (⟨h.it ++ [v], h.pl.set v h.it.length, h.ky⟩ : Hq).place w = if v = w then (h.it.length : Int) else h.place w := fun w => getD_set _ _ _ _ _ hv
    have e2 : ∀ i, (⟨h.it ++ [v], h.pl.set v h.it.length, h.ky⟩ : Hq).item i = if i = h.it.length then v else h.item i := fun i => getD_app _ _ _ _
    refine ⟨⟨⟨by simpa using o.ok.len, fun w hw => ?_⟩, fun w hw hw0 => ?_, fun i hi => ?_⟩, by simp, rfl, by rw [e1, if_pos rfl]; omega, by simp⟩
    · rcases List.mem_append.1 hw with h1 | h1
      · simpa using o.ok.lt w h1
      · have : w = v := by simpa using h1
        subst this; simpa using hv
    · simp only [List.length_set] at hw
      rw [e1] at hw0 ⊢
      by_cases hvw : v = w
      · subst hvw; simp only [if_pos, List.length_append, List.length_singleton]; rw [e2]; exact ⟨by omega, by simp⟩
      · rw [if_neg hvw] at hw0 ⊢
        obtain ⟨a, b⟩ := o.at_ w hw hw0
        refine ⟨by simp; omega, ?_⟩
        rw [e2, if_neg (by omega)]; exact b
    · simp only [List.length_append, List.length_singleton] at hi
      rw [e2, e1]
      by_cases hin : i = h.it.length
      · rw [if_pos hin, if_pos rfl, hin]
      · rw [if_neg hin]
        have hi' : i < h.it.length := by omega
        have := o.inv i hi'
        by_cases hvi : v = h.item i
        · exfalso; rw [← hvi] at this; omega
        · rw [if_neg hvi]; exact this
  · rw [if_neg hp]; exact ⟨o, rfl, rfl, by omega, by omega⟩
theorem HI.put {h : Hq} (o : HI h) {v : Nat} (hv : v < h.pl.length) (k : Int) : HI (putH h v k) ∧ (putH h v k).pl.length = h.pl.length ∧ 0 ≤ (putH h v k).place v ∧ (putH h v k).it.length ≤ h.it.length + 1 := by
  obtain ⟨a, b, c, d, e⟩ := o.ins hv
  exact ⟨⟨⟨by simpa [putH] using a.ok.len, a.ok.lt⟩, a.at_, a.inv⟩, b, d, e⟩
theorem place_swap (h : Hq) {i j : Nat} (o : h.Ok) (hi : i < h.it.length) (hj : j < h.it.length) (w : Nat) : (swapH h i j).place w = if h.item i = w then (j : Int) else if h.item j = w then (i : Int) else h.place w := by
  have h1 := o.item hi
  have h2 := o.item hj
  unfold Hq.place swapH
  rw [getD_set _ _ _ _ _ (by simpa using h1)]
  by_cases e : h.item i = w
  · rw [if_pos e, if_pos e]
  · rw [if_neg e, if_neg e, getD_set _ _ _ _ _ h2]
theorem item_swap (h : Hq) {i j : Nat} (hi : i < h.it.length) (hj : j < h.it.length) (k : Nat) : (swapH h i j).item k = if j = k then h.item i else if i = k then h.item j else h.item k := by
  unfold Hq.item swapH
  rw [getD_set _ _ _ _ _ (by simpa using hj)]
  by_cases e : j = k
  · rw [if_pos e, if_pos e]; rfl
  · rw [if_neg e, if_neg e, getD_set _ _ _ _ _ hi]; rfl
theorem HI.swap {h : Hq} (o : HI h) {i j : Nat} (hi : i < h.it.length) (hj : j < h.it.length) : HI (swapH h i j) := by
  obtain ⟨l1, l2, l3⟩ := swapH_len h i j
  have ii := o.inv i hi
  have ij := o.inv j hj
  refine ⟨o.ok.swap hi hj, fun w hw hw0 => ?_, fun k hk => ?_⟩
  · rw [place_swap h o.ok hi hj] at hw0 ⊢
    rw [l1]
    by_cases e1 : h.item i = w
    · rw [if_pos e1]
      refine ⟨by omega, ?_⟩
      rw [item_swap h hi hj, if_pos (by simp)]; exact e1
    · rw [if_neg e1] at hw0 ⊢
      by_cases e2 : h.item j = w
      · rw [if_pos e2]
        refine ⟨by omega, ?_⟩
        rw [item_swap h hi hj, Int.toNat_natCast]
        by_cases e3 : j = i
        · subst e3; rw [if_pos rfl]; exact e2
        · rw [if_neg e3, if_pos rfl]; exact e2
      · rw [if_neg e2] at hw0 ⊢
        obtain ⟨a, b⟩ := o.at_ w (by rw [← l2]; exact hw) hw0
        refine ⟨a, ?_⟩
        rw [item_swap h hi hj, if_neg (fun e => e2 (by rw [e]; exact b)), if_neg (fun e => e1 (by rw [e]; exact b))]; exact b
  · rw [l1] at hk
    rw [item_swap h hi hj]
    by_cases e1 : j = k
    · rw [if_pos e1, place_swap h o.ok hi hj, if_pos rfl, e1]
    · rw [if_neg e1]
      by_cases e2 : i = k
      · rw [if_pos e2, place_swap h o.ok hi hj]
        by_cases e3 : h.item i = h.item j
        · rw [if_pos e3]; rw [e3] at ii; omega
        · rw [if_neg e3, if_pos rfl, e2]
      · rw [if_neg e2, place_swap h o.ok hi hj]
        have ik := o.inv k hk
        rw [if_neg (fun e => by rw [e] at ii; omega), if_neg (fun e => by rw [e] at ij; omega)]; exact ik
theorem HI.cut {h : Hq} (o : HI h) {v : Nat} (hv : v < h.pl.length) (hp : 0 ≤ h.place v) : HI (cutH h v) ∧ (cutH h v).it.length = h.it.length - 1 ∧ (cutH h v).pl.length = h.pl.length ∧ (cutH h v).ky = h.ky := by
  have hi := o.lt hv hp
  have hj : h.it.length - 1 < h.it.length := by omega
  obtain ⟨_, hiv⟩ := o.at_ v hv hp
  have os := o.swap hi hj
  obtain ⟨l1, l2, l3⟩ := swapH_len h (h.place v).toNat (h.it.length - 1)
  have hlast : (swapH h (h.place v).toNat (h.it.length - 1)).item (h.it.length - 1) = v := by rw [item_swap h hi hj, if_pos rfl]; exact hiv
  have hpl : (swapH h (h.place v).toNat (h.it.length - 1)).place v = (h.it.length - 1 : Nat) := by rw [← hlast]; rw [hlast]; have := os.inv (h.it.length - 1) (by rw [l1]; exact hj); rw [hlast] at this; exact this
  have e1 : ∀ w, (cutH h v).place w = if v = w then (-1 : Int) else (swapH h (h.place v).toNat (h.it.length - 1)).place w := fun w => getD_set _ _ _ _ _ (by rw [l2]; exact hv)
  have e2 : ∀ i, i < h.it.length - 1 → (cutH h v).item i = (swapH h (h.place v).toNat (h.it.length - 1)).item i := fun i hi => by
    unfold cutH Hq.item; simp only [List.getD_eq_getElem?_getD]; rw [List.getElem?_take, if_pos hi]
  have hl : (cutH h v).it.length = h.it.length - 1 := by unfold cutH; simp only [List.length_take, l1]; omega
  refine ⟨⟨⟨?_, fun w hw => ?_⟩, fun w hw hw0 => ?_, fun i hi2 => ?_⟩, hl, by unfold cutH; simp [l2], rfl⟩
  · unfold cutH; simp only [List.length_set, l2]; exact o.ok.len
  · have := os.ok.lt w (List.mem_of_mem_take hw); unfold cutH; simpa using this
  · have hw' : w < (swapH h (h.place v).toNat (h.it.length - 1)).pl.length := by unfold cutH at hw; simpa using hw
    rw [e1] at hw0 ⊢
    by_cases e : v = w
    · rw [if_pos e] at hw0; omega
    · rw [if_neg e] at hw0 ⊢
      obtain ⟨a, b⟩ := os.at_ w hw' hw0
      rw [l1] at a
      have hne : ((swapH h (h.place v).toNat (h.it.length - 1)).place w).toNat ≠ h.it.length - 1 := fun e3 => e (by rw [e3, hlast] at b; exact b)
      refine ⟨by rw [hl]; omega, ?_⟩
      rw [e2 _ (by omega)]; exact b
  · rw [hl] at hi2
    rw [e2 i hi2, e1]
    have := os.inv i (by rw [l1]; omega)
    rw [if_neg (fun e => by rw [← e, hpl] at this; omega)]; exact this
end Go.Pl
namespace Go.Pl
theorem HI.up {h : Hq} : ∀ {i : Nat}, HI h → i < h.it.length → HI (upH h i).1 ∧ (upH h i).1.it.length = h.it.length ∧ (upH h i).1.pl.length = h.pl.length ∧ (upH h i).1.ky = h.ky ∧ (upH h i).2 < h.it.length := by
  intro i
  induction i using Nat.strongRecOn generalizing h with
  | _ i ih =>
    intro o hi
    by_cases hh : 0 < i ∧ lessH h i ((i - 1) / 2) = true
    · rw [up_step hh.1 hh.2]
      have hj : (i - 1) / 2 < h.it.length := by omega
      obtain ⟨l1, l2, l3⟩ := swapH_len h i ((i - 1) / 2)
      obtain ⟨a, b, c, d, e⟩ := ih ((i - 1) / 2) (by omega) (o.swap hi hj) (by rw [l1]; exact hj)
      exact ⟨a, b.trans l1, c.trans l2, d.trans l3, by omega⟩
    · rw [up_stop hh]; exact ⟨o, rfl, rfl, rfl, hi⟩
theorem HI.down {h : Hq} : ∀ {k i n : Nat}, n - i ≤ k → HI h → i < h.it.length → n = h.it.length → HI (downH h i n) ∧ (downH h i n).it.length = h.it.length ∧ (downH h i n).pl.length = h.pl.length ∧ (downH h i n).ky = h.ky := by
  intro k
  induction k generalizing h with
  | zero => intro i n hk o hi hn; omega
  | succ k ih =>
    intro i n hk o hi hn
    by_cases hh : kidH h i n < n ∧ lessH h (kidH h i n) i = true
    · rw [down_step hh.1 hh.2]
      have hgt := kidH_gt h i n
      obtain ⟨l1, l2, l3⟩ := swapH_len h i (kidH h i n)
      obtain ⟨a, b, c, d⟩ := ih (h := swapH h i (kidH h i n)) (i := kidH h i n) (n := n) (by omega) (o.swap hi (by omega)) (by rw [l1]; omega) (by rw [l1]; exact hn)
      exact ⟨a, b.trans l1, c.trans l2, d.trans l3⟩
    · rw [down_stop hh]; exact ⟨o, rfl, rfl, rfl⟩
theorem HI.settle {h : Hq} {i : Nat} (o : HI h) (hi : i < h.it.length) : HI (settleH h i h.it.length) ∧ (settleH h i h.it.length).it.length = h.it.length ∧ (settleH h i h.it.length).pl.length = h.pl.length ∧ (settleH h i h.it.length).ky = h.ky := by
  obtain ⟨a, b, c, d, e⟩ := o.up hi
  obtain ⟨a2, b2, c2, d2⟩ := a.down (k := h.it.length - (upH h i).2) (i := (upH h i).2) (n := h.it.length) (Nat.le_refl _) (by omega) (by omega)
  exact ⟨a2, b2.trans b, c2.trans c, d2.trans d⟩
theorem HI.set {h : Hq} (o : HI h) {v : Nat} (hv : v < h.pl.length) (k : Int) : HI (setH h v k) ∧ (setH h v k).it.length = (putH h v k).it.length ∧ (setH h v k).pl.length = h.pl.length ∧ (setH h v k).ky = h.ky.set v k := by
  obtain ⟨a, b, c, d⟩ := o.put hv k
  have hi := a.lt (by rw [b]; exact hv) c
  obtain ⟨q1, q2, q3, q4⟩ := a.settle hi
  refine ⟨q1, q2, q3.trans b, q4.trans ?_⟩
  unfold putH insH; split <;> rfl
theorem HI.drop {h : Hq} (o : HI h) {v : Nat} (hv : v < h.pl.length) (hp : 0 ≤ h.place v) : HI (dropH h v) ∧ (dropH h v).it.length = h.it.length - 1 ∧ (dropH h v).pl.length = h.pl.length ∧ (dropH h v).ky = h.ky := by
  obtain ⟨a, b, c, d⟩ := o.cut hv hp
  unfold dropH
  by_cases hh : (h.place v).toNat < h.it.length - 1
  · rw [if_pos hh]
    obtain ⟨q1, q2, q3, q4⟩ := a.settle (i := (h.place v).toNat) (by rw [b]; exact hh)
    rw [b] at q1 q2 q3 q4
    exact ⟨q1, q2, q3.trans c, q4.trans d⟩
  · rw [if_neg hh]; exact ⟨a, b, c, d⟩
end Go.Pl
namespace Go.Proofs.YtcillieggklaaaaGreat
open Go Go.RT Go.Proofs Go.Pl
set_option linter.all false
set_option maxRecDepth 20000
set_option maxHeartbeats 4000000
theorem len_c (h : Hq) : Meets Tryz.prog 117 [.ptr 0 3 0 0] 4 (HH h) (IV .i64 h.it.length) (HH h) 4 := by
 refine Meets.intro Tryz.func117 rfl (Nat.le_of_ble_eq_true rfl) fun C hC => ?_
 simp only [List.map, argEnv, Nat.reduceAdd]
 refine nK2 ?_
 refine zb ?_
 refine ze ?_
 refine zc ?_
 refine nK2 ?_
 refine zb ?_
 refine za ?_
 refine rpZ 4 rfl (op_eqlnilp rfl (oT rfl)) ?_
 refine zc ?_
 refine nK2 ?_
 refine n_cond _ rfl (fun hb => ?_) (fun hb => ?_)
 ·simp at hb
 refine nK2 ?_
 refine zb ?_
 refine za ?_
 refine zba ?_
 refine zg ?_
 refine zy ?_
 refine zbi ?_
 refine zd ?_
 refine zc ?_
 refine nK2 ?_
 refine Next.weak [0, 1, 2, 3] [] (by rfl) (keepsN hC _ rfl) (G' := [(2, .fz _)]) (H' := HH h) wG wR wN ?_
 exact n_out1 rfl (by rfl) rfl rfl
theorem has_c (h : Hq) (v : Nat) (hv : v < h.pl.length) : Meets Tryz.prog 85 [.ptr 0 3 0 0, IV .i64 v] 4 (HH h) (BV (decide (0 ≤ h.place v))) (HH h) 4 := by
 have rv := row_of encN h.pl v 0 hv
 unfold Hq.place
 generalize h.pl.getD v 0 = p at *
 refine Meets.intro Tryz.func85 rfl (Nat.le_of_ble_eq_true rfl) fun C hC => ?_
 simp only [List.map, argEnv, Nat.reduceAdd]
 refine nK2 ?_
 refine zb ?_
 refine ze ?_
 refine zc ?_
 refine nK2 ?_
 refine zb ?_
 refine za ?_
 refine rpZ 6 rfl (op_neqnilp rfl (oT rfl)) ?_
 refine za ?_
 refine zf ?_
 refine zck ?_
 refine zt ?_
 refine za ?_
 refine zf ?_
 refine zf ?_
 refine zcm ?_
 refine zcq ?_
 refine zcr ?_
 refine rgZ 17 rfl rfl tG (op_len_sl rfl (oO rfl tO)) ?_
 refine zbk ?_
 refine zt ?_
 refine za ?_
 refine zf ?_
 refine zcm ?_
 refine zcq ?_
 refine zcr ?_
 refine zf ?_
 refine zdh ?_
 refine zm ?_
 refine zck ?_
 refine zt ?_
 refine zd ?_
 refine zc ?_
 refine nK2 ?_
 refine Next.weak [0, 1, 2, 3] [] (by rfl) (keepsN hC _ rfl) (G' := [(4, BV (decide (0 ≤ p)))]) (H' := HH h) (by exact ⟨⟨_, rfl, .inl ⟨by simp [hv, renP], rfl⟩⟩, trivial⟩) wR wN ?_
 exact n_out1 rfl (by rfl) rfl rfl
theorem key_c (h : Hq) (o : h.Ok) (v : Nat) (hv : v < h.pl.length) : Meets Tryz.prog 60 [.ptr 0 3 0 0, IV .i64 v] 4 (HH h) (.fz (.tup [If .i64 (if 0 ≤ h.place v then h.key v else 0), Bf (decide (0 ≤ h.place v))])) (HH h) 4 := by
 have hh := has_c h v hv
 have hol := o.len
 have rv := row_of encN h.ky v 0 (by omega)
 unfold Hq.key
 generalize h.ky.getD v 0 = k at *
 generalize hp : h.place v = p at *
 refine Meets.intro Tryz.func60 rfl (Nat.le_of_ble_eq_true rfl) fun C hC => ?_
 simp only [List.map, argEnv, Nat.reduceAdd]
 refine nK2 ?_
 refine zb ?_
 refine ze ?_
 refine ze ?_
 refine zc ?_
 refine nK2 ?_
 refine zb ?_
 refine za ?_
 refine za ?_
 refine rlZ 8 rfl (op_call_read (n := 4) [0, 1, 2, 3] (fun _ => hh) rfl (Opd.func _) (oS (oT rfl) (oS (oT rfl) Opds.nil)) rfl rfl (Lent.of rfl rfl (by exact ⟨⟨rfl, rfl, rfl, tL⟩, ⟨rfl, rfl, rfl, trivial⟩, ⟨rfl, rfl, rfl, trivial⟩, ⟨rfl, rfl, rfl, trivial⟩, trivial⟩) rfl) rfl) ?_
 refine zbj ?_
 refine zc ?_
 refine nK2 ?_
 refine n_cond _ rfl (fun hb => ?_) (fun hb => ?_)
 ·have h2 : ¬ 0 ≤ p := by simpa using hb
  rw [if_neg h2, show decide (0 ≤ p) = false by simpa using h2]
  refine nK2 ?_
  refine zb ?_
  refine ze ?_
  refine ze ?_
  refine zc ?_
  refine nK2 ?_
  refine Next.weak [0, 1, 2, 3] [] (by rfl) (keepsN hC _ rfl) (G' := [(4, IV .i64 0), (5, BV false)]) (H' := HH h) wG wR wN ?_
  exact n_out2 rfl (by rfl) rfl (.inl ⟨_, _, rfl, rfl, rfl⟩)
 have h2 : 0 ≤ p := by simpa using hb
 rw [if_pos h2, show decide (0 ≤ p) = true by simpa using h2]
 refine nK2 ?_
 refine zb ?_
 refine za ?_
 refine zba ?_
 refine zg ?_
 refine zy ?_
 refine za ?_
 refine zbv ?_
 refine zh ?_
 refine zd ?_
 refine ze ?_
 refine zc ?_
 refine nK2 ?_
 refine Next.weak [0, 1, 2, 3] [] (by rfl) (keepsN hC _ rfl) (G' := [(4, IV .i64 k), (5, BV true)]) (H' := HH h) wG wR wN ?_
 exact n_out2 rfl (by rfl) rfl (.inl ⟨_, _, rfl, rfl, rfl⟩)
theorem min_c (h : Hq) (o : h.Ok) : Meets Tryz.prog 96 [.ptr 0 3 0 0] 4 (HH h) (.fz (.tup [If .i64 (h.item 0 : Nat), If .i64 (if h.it = [] then 0 else h.key (h.item 0)), Bf (!h.it.isEmpty)])) (HH h) 4 := by
 have hl := len_c h
 refine Meets.intro Tryz.func96 rfl (Nat.le_of_ble_eq_true rfl) fun C hC => ?_
 simp only [List.map, argEnv, Nat.reduceAdd]
 refine nK2 ?_
 refine zb ?_
 refine ze ?_
 refine ze ?_
 refine ze ?_
 refine zc ?_
 refine nK2 ?_
 refine zb ?_
 refine za ?_
 refine rlZ 6 rfl (op_call_read (n := 4) [0, 1, 2, 3] (fun _ => hl) rfl (Opd.func _) (oS (oT rfl) Opds.nil) rfl rfl (Lent.of rfl rfl (by exact ⟨⟨rfl, rfl, rfl, tL⟩, ⟨rfl, rfl, rfl, trivial⟩, ⟨rfl, rfl, rfl, trivial⟩, ⟨rfl, rfl, rfl, trivial⟩, trivial⟩) rfl) rfl) ?_
 refine zci ?_
 refine zc ?_
 refine nK2 ?_
 refine n_cond _ rfl (fun hb => ?_) (fun hb => ?_)
 ·have h2 : h.it = [] := by simpa using hb
  have e0 : h.item 0 = 0 := by unfold Hq.item; rw [h2]; rfl
  rw [if_pos h2, e0, show (!h.it.isEmpty) = false by rw [h2]; rfl]
  refine nK2 ?_
  refine zb ?_
  refine ze ?_
  refine ze ?_
  refine ze ?_
  refine zc ?_
  refine nK2 ?_
  refine Next.weak [0, 1, 2, 3] [] (by rfl) (keepsN hC _ rfl) (G' := [(2, IV .i64 0), (3, IV .i64 0), (4, BV false)]) (H' := HH h) wG wR wN ?_
  exact n_out3 rfl (by rfl) rfl rfl (.inl ⟨_, _, _, rfl, rfl, rfl, rfl⟩)
 have h2 : 0 < h.it.length := Nat.pos_of_ne_zero fun e => by simp [e] at hb
 have hne : h.it ≠ [] := fun e => by rw [e] at h2; exact absurd h2 (by decide)
 have hv := o.item h2
 have hol := o.len
 have r0 := row_of encT h.it 0 0 h2
 rw [if_neg hne, show (!h.it.isEmpty) = true by cases hq : h.it <;> simp_all]
 unfold Hq.item at hv ⊢
 generalize h.it.getD 0 0 = v at *
 have rv := row_of encN h.ky v 0 (by omega)
 unfold Hq.key
 generalize h.ky.getD v 0 = k at *
 refine nK2 ?_
 refine s_draw mixed ?_
 refine za ?_
 refine zba ?_
 refine zg ?_
 refine zy ?_
 refine rpZ 12 rfl (op_idx_sl0 0 rfl (oT rfl) oC (by intro _; exact ⟨rfl, h2⟩)) ?_
 refine zh ?_
 refine za ?_
 refine zba ?_
 refine zg ?_
 refine zy ?_
 refine za ?_
 refine zba ?_
 refine zg ?_
 refine zy ?_
 refine rpZ 22 rfl (op_idx_sl0 0 rfl (oT rfl) oC (by intro _; exact ⟨rfl, h2⟩)) ?_
 refine zh ?_
 refine zbv ?_
 refine zh ?_
 refine zd ?_
 refine zd ?_
 refine ze ?_
 refine zs ?_
 refine nK2 ?_
 refine Next.weak [0, 1, 2, 3] [] (by rfl) (keepsN hC _ rfl) (G' := [(2, IV .i64 v), (3, IV .i64 k), (4, BV true)]) (H' := HH h) wG wR wN ?_
 exact n_out3 rfl (by rfl) rfl rfl (.inl ⟨_, _, _, rfl, rfl, rfl, rfl⟩)
open Go Go.RT Go.Proofs Go.Pl
set_option maxRecDepth 20000
set_option maxHeartbeats 4000000
abbrev HX (h : Hq) : Hp := [(0, some (.refs 3 [[.sl 4 1 0 h.it.length, .sl 2 1 0 h.pl.length, .sl 3 1 0 h.ky.length]])), (4, OT h.it), (2, OI h.pl), (3, OI h.ky)]
theorem settle_i (h : Hq) (o : HI h) (a b : Int) (i : Nat) (ha : a = i) (hb : b = h.it.length) (hi : i < h.it.length) (hm : h.it.length ≤ 2000000) : Meets Tryz.prog 78 [IV .i64 a, IV .i64 b, .clo 79 [.ptr 0 3 0 0] [], .clo 80 [.ptr 0 3 0 0] []] 4 (HH h) (.fz (.tup [])) (HH (settleH h i h.it.length)) 4 := by
 subst ha; subst hb; exact settle_c h o.ok i h.it.length hi rfl hm
theorem set_c (h : Hq) (o : HI h) (v : Nat) (k : Int) (hv : v < h.pl.length) (hm : h.it.length ≤ 1999999) : Meets Tryz.prog 57 [.ptr 0 3 0 0, IV .i64 v, IV .i64 k] 4 (HH h) (BV true) (HX (setH h v k)) 5 := by
 have rv := row_of encN h.pl v 0 hv
 have hol := o.ok.len
 obtain ⟨op, pl2, hp0, hp1⟩ := o.put hv k
 have hlt := op.lt (v := v) (by rw [pl2]; exact hv) hp0
 obtain ⟨_, e1, e2, e3⟩ := o.set hv k
 have hst := fun a b ha hb => settle_i (putH h v k) op a b ((putH h v k).place v).toNat ha hb hlt (by omega)
 have hse : settleH (putH h v k) ((putH h v k).place v).toNat (putH h v k).it.length = setH h v k := rfl
 rw [hse] at hst
 have rvp := row_of encN (putH h v k).pl v 0 (by rw [pl2]; exact hv)
 have rvk := row_of encN h.ky v 0 (by omega)
 have hpd : h.pl.getD v 0 = h.place v := rfl
 have hpd2 : (putH h v k).pl.getD v 0 = (putH h v k).place v := rfl
 rw [hpd] at rv
 rw [hpd2] at rvp
 refine Meets.intro Tryz.func57 rfl (Nat.le_of_ble_eq_true rfl) fun C hC => ?_
 simp only [List.map, argEnv, Nat.reduceAdd]
 refine nK2 ?_
 refine zb ?_
 refine ze ?_
 refine zc ?_
 refine nK2 ?_
 refine zb ?_
 refine za ?_
 refine rpZ 8 rfl (op_eqlnilp rfl (oT rfl)) ?_
 refine za ?_
 refine zf ?_
 refine zcc ?_
 refine zv ?_
 refine za ?_
 refine zf ?_
 refine zf ?_
 refine zcm ?_
 refine zcq ?_
 refine zcr ?_
 refine rgZ 19 rfl rfl tG (op_len_sl rfl (oO rfl tO)) ?_
 refine zbz ?_
 refine zv ?_
 refine zc ?_
 refine nK2 ?_
 refine n_cond _ rfl (fun hb => ?_) (fun hb => ?_)
 ·exfalso; simp at hb; omega
 refine nK2 ?_
 refine zb ?_
 refine za ?_
 refine zba ?_
 refine zg ?_
 refine zy ?_
 refine za ?_
 refine zbv ?_
 refine zh ?_
 refine zbn ?_
 refine zc ?_
 refine nK2 ?_
 refine n_cond _ rfl (fun hb => ?_) (fun hb => ?_)
 ·have hneg : h.place v < 0 := by simpa using hb
  have hpu : putH h v k = ⟨h.it ++ [v], h.pl.set v h.it.length, h.ky.set v k⟩ := by unfold putH insH; rw [if_pos hneg]
  have e4 : (putH h v k).it.length = h.it.length + 1 := by rw [hpu]; simp
  have q1 : (putH h v k).it = h.it ++ [v] := by rw [hpu]
  have q2 : (putH h v k).pl = h.pl.set v h.it.length := by rw [hpu]
  have q3 : (putH h v k).ky = h.ky.set v k := by rw [hpu]
  refine nK2 ?_
  refine s_draw mixed ?_
  refine za ?_
  refine zba ?_
  refine zg ?_
  refine zy ?_
  refine za ?_
  refine za ?_
  refine zba ?_
  refine zg ?_
  refine zy ?_
  refine zbi ?_
  refine zbv ?_
  refine zch ?_
  refine zs ?_
  refine nK2 ?_
  refine zb ?_
  refine za ?_
  refine za ?_
  refine zba ?_
  refine zg ?_
  refine zy ?_
  refine za ?_
  refine zbh ?_
  refine zbu ?_
  refine zba ?_
  refine zg ?_
  refine zcp ?_
  refine zc ?_
  refine nK2 ?_
  refine zb ?_
  refine za ?_
  refine zba ?_
  refine zg ?_
  refine zy ?_
  refine za ?_
  refine za ?_
  refine zbv ?_
  refine zr ?_
  refine zc ?_
  refine nK2 ?_
  generalize putH h v k = p at *
  refine Next.weak [0, 1, 2, 3, 4] [] (by rfl) (keepsN hC _ rfl) (G' := [(0, .ptr 0 3 0 0), (1, IV .i64 v)]) (H' := HX p) wG (by exact ⟨ent_same rfl rfl (by rw [q1, q2, q3]; simp only [List.length_append, List.length_set, List.length_singleton]; rfl) tL, ⟨ent_same rfl rfl (flEq rfl (by rw [q1, List.map_append]; rfl)) trivial, ⟨ent_same rfl rfl (flEq rfl (by rw [q2, List.map_set]; rfl)) trivial, ⟨ent_same rfl rfl (flEq rfl (by rw [q3, List.map_set]; rfl)) trivial, trivial⟩⟩⟩⟩) wN ?_
  generalize hpp : p.place v = pv at *
  refine nK2 ?_
  refine s_draw mixed ?_
  refine za ?_
  refine zba ?_
  refine zg ?_
  refine zy ?_
  refine za ?_
  refine rpZ 63 rfl (op_idx_sl0 v rfl (oT rfl) (oT rfl) (by intro _; exact ⟨rfl, by omega⟩)) ?_
  refine zh ?_
  refine za ?_
  refine zba ?_
  refine zg ?_
  refine zy ?_
  refine zbi ?_
  refine za ?_
  refine zcv ?_
  refine za ?_
  refine zcv ?_
  refine Run.effW (dd := some 74) rfl rfl (op_call (n := 4) (n' := 4) [0, 4, 2, 3] (fun _ => hst _ _ (by omega) rfl) rfl (Opd.func _) (oS (oT rfl) (oS (oT rfl) (oS (oT rfl) (oS (oT rfl) Opds.nil)))) rfl rfl (Lent.of rfl rfl (by exact ⟨⟨rfl, rfl, rfl, tL⟩, ⟨rfl, rfl, rfl, trivial⟩, ⟨rfl, rfl, rfl, trivial⟩, ⟨rfl, rfl, rfl, trivial⟩, trivial⟩) rfl) rfl rfl rfl rfl rfl) (by first | exact ext_call | exact tE) ?_
  refine zs ?_
  refine nK2 ?_
  refine zb ?_
  refine ze ?_
  refine zc ?_
  refine nK2 ?_
  refine Next.weak [0, 1, 2, 3, 4] [] (by rfl) (keepsN hC _ rfl) (G' := [(6, BV true)]) (H' := HX (setH h v k)) wG wR wN ?_
  exact n_out1 rfl (by rfl) rfl rfl
 have hneg : ¬ h.place v < 0 := by simpa using hb
 have hpu : putH h v k = ⟨h.it, h.pl, h.ky.set v k⟩ := by unfold putH insH; rw [if_neg hneg]
 have q1 : (putH h v k).it = h.it := by rw [hpu]
 have q2 : (putH h v k).pl = h.pl := by rw [hpu]
 have q3 : (putH h v k).ky = h.ky.set v k := by rw [hpu]
 refine nK2 ?_
 refine zb ?_
 refine za ?_
 refine zba ?_
 refine zg ?_
 refine zy ?_
 refine za ?_
 refine za ?_
 refine zbv ?_
 refine zr ?_
 refine zc ?_
 refine nK2 ?_
 refine Next.retagCell 0 0 0 rfl rfl rfl rfl rfl ?_
 generalize putH h v k = p at *
 refine Next.weak [0, 1, 2, 3, 4] [] (by rfl) (keepsN hC _ rfl) (G' := [(0, .ptr 0 3 0 0), (1, IV .i64 v)]) (H' := HX p) wG (by exact ⟨ent_same rfl rfl (by rw [q1, q2, q3]; simp only [List.length_set]; rfl) tL, ⟨ent_same rfl rfl (flEq rfl (by rw [q1])) trivial, ⟨ent_same rfl rfl (flEq rfl (by rw [q2])) trivial, ⟨ent_same rfl rfl (flEq rfl (by rw [q3, List.map_set]; rfl)) trivial, trivial⟩⟩⟩⟩) wN ?_
 generalize hpp : p.place v = pv at *
 refine nK2 ?_
 refine s_draw mixed ?_
 refine za ?_
 refine zba ?_
 refine zg ?_
 refine zy ?_
 refine za ?_
 refine rpZ 63 rfl (op_idx_sl0 v rfl (oT rfl) (oT rfl) (by intro _; exact ⟨rfl, by omega⟩)) ?_
 refine zh ?_
 refine za ?_
 refine zba ?_
 refine zg ?_
 refine zy ?_
 refine zbi ?_
 refine za ?_
 refine zcv ?_
 refine za ?_
 refine zcv ?_
 refine Run.effW (dd := some 74) rfl rfl (op_call (n := 4) (n' := 4) [0, 4, 2, 3] (fun _ => hst _ _ (by omega) rfl) rfl (Opd.func _) (oS (oT rfl) (oS (oT rfl) (oS (oT rfl) (oS (oT rfl) Opds.nil)))) rfl rfl (Lent.of rfl rfl (by exact ⟨⟨rfl, rfl, rfl, tL⟩, ⟨rfl, rfl, rfl, trivial⟩, ⟨rfl, rfl, rfl, trivial⟩, ⟨rfl, rfl, rfl, trivial⟩, trivial⟩) rfl) rfl rfl rfl rfl rfl) (by first | exact ext_call | exact tE) ?_
 refine zs ?_
 refine nK2 ?_
 refine zb ?_
 refine ze ?_
 refine zc ?_
 refine nK2 ?_
 refine Next.weak [0, 1, 2, 3, 4] [] (by rfl) (keepsN hC _ rfl) (G' := [(6, BV true)]) (H' := HX (setH h v k)) wG wR wN ?_
 exact n_out1 rfl (by rfl) rfl rfl
open Go Go.RT Go.Proofs Go.Pl
set_option maxRecDepth 20000
set_option maxHeartbeats 4000000
theorem drop_c (h : Hq) (o : HI h) (v : Nat) (hv : v < h.pl.length) (hp : 0 ≤ h.place v) (hm : h.it.length ≤ 1999999) : Meets Tryz.prog 97 [.ptr 0 3 0 0, IV .i64 v] 4 (HH h) (BV true) (HX (dropH h v)) 5 := by
 have hh := has_c h v hv
 have rv := row_of encN h.pl v 0 hv
 have hpd : h.pl.getD v 0 = h.place v := rfl
 rw [hpd] at rv
 have hlt := o.lt hv hp
 have hsw := fun a b ha hb => swap_i h o.ok a b (h.place v).toNat (h.it.length - 1) ha hb hlt (by omega)
 obtain ⟨s1, s2, s3⟩ := swapH_len h (h.place v).toNat (h.it.length - 1)
 obtain ⟨oc, c1, c2, c3⟩ := o.cut hv hp
 have hst : (h.place v).toNat < h.it.length - 1 → ∀ a b, a = ((h.place v).toNat : Int) → b = ((h.it.length - 1 : Nat) : Int) → Meets Tryz.prog 78 [IV .i64 a, IV .i64 b, .clo 79 [.ptr 0 3 0 0] [], .clo 80 [.ptr 0 3 0 0] []] 4 (HH (cutH h v)) (.fz (.tup [])) (HH (settleH (cutH h v) (h.place v).toNat (h.it.length - 1))) 4 := fun hh a b ha hb => by
  have := settle_i (cutH h v) oc a b (h.place v).toNat ha (by rw [c1]; exact hb) (by rw [c1]; exact hh) (by omega)
  rwa [c1] at this
 have hd1 : (h.place v).toNat < h.it.length - 1 → dropH h v = settleH (cutH h v) (h.place v).toNat (h.it.length - 1) := fun hh => by unfold dropH; rw [if_pos hh]
 have hd2 : ¬ (h.place v).toNat < h.it.length - 1 → dropH h v = cutH h v := fun hh => by unfold dropH; rw [if_neg hh]
 have q1 : (cutH h v).it = (swapH h (h.place v).toNat (h.it.length - 1)).it.take (h.it.length - 1) := rfl
 have q2 : (cutH h v).pl = (swapH h (h.place v).toNat (h.it.length - 1)).pl.set v (-1) := rfl
 have q3 : (cutH h v).ky = (swapH h (h.place v).toNat (h.it.length - 1)).ky := rfl
 generalize swapH h (h.place v).toNat (h.it.length - 1) = sw at *
 generalize cutH h v = ct at *
 have rsv := row_of encN sw.pl v 0 (by omega)
 refine Meets.intro Tryz.func97 rfl (Nat.le_of_ble_eq_true rfl) fun C hC => ?_
 simp only [List.map, argEnv, Nat.reduceAdd]
 refine nK2 ?_
 refine zb ?_
 refine ze ?_
 refine zc ?_
 refine nK2 ?_
 refine zb ?_
 refine za ?_
 refine za ?_
 refine rlZ 9 rfl (op_call_read (n := 4) [0, 1, 2, 3] (fun _ => hh) rfl (Opd.func _) (oS (oT rfl) (oS (oT rfl) Opds.nil)) rfl rfl (Lent.of rfl rfl (by exact ⟨⟨rfl, rfl, rfl, tL⟩, ⟨rfl, rfl, rfl, trivial⟩, ⟨rfl, rfl, rfl, trivial⟩, ⟨rfl, rfl, rfl, trivial⟩, trivial⟩) rfl) rfl) ?_
 refine zbj ?_
 refine zc ?_
 refine nK2 ?_
 refine n_cond _ rfl (fun hb => ?_) (fun hb => ?_)
 ·exfalso; simp at hb; omega
 refine nK2 ?_
 refine s_draw mixed ?_
 refine za ?_
 refine zba ?_
 refine zg ?_
 refine zy ?_
 refine za ?_
 refine zbv ?_
 refine zh ?_
 refine za ?_
 refine zba ?_
 refine zg ?_
 refine zy ?_
 refine zbi ?_
 refine zbx ?_
 refine zd ?_
 refine zd ?_
 refine zs ?_
 refine nK2 ?_
 refine zb ?_
 refine za ?_
 refine za ?_
 refine za ?_
 refine Run.eff (dd := some 27) rfl rfl (op_call (n := 4) (n' := 4) [0, 1, 2, 3] (fun _ => hsw _ _ (by omega) (by omega)) rfl (Opd.func _) (oS (oT rfl) (oS (oT rfl) (oS (oT rfl) Opds.nil))) rfl rfl (Lent.of rfl rfl (by exact ⟨⟨rfl, rfl, rfl, tL⟩, ⟨rfl, rfl, rfl, trivial⟩, ⟨rfl, rfl, rfl, trivial⟩, ⟨rfl, rfl, rfl, trivial⟩, trivial⟩) rfl) rfl rfl rfl rfl rfl) ?_
 refine zc ?_
 refine nK2 ?_
 refine zb ?_
 refine za ?_
 refine za ?_
 refine zba ?_
 refine zg ?_
 refine zy ?_
 refine za ?_
 refine Run.eff (dd := some 34) rfl rfl (op_slice_sl (h := h.it.length - 1) rfl (oT rfl) (Bnd.yes _ _ _ _ _ (oT rfl) (by intro _; omega)) (by intro _; omega) rfl (by rw [List.length_map])) ?_
 refine zba ?_
 refine zg ?_
 refine zcp ?_
 refine zc ?_
 refine nK2 ?_
 refine zb ?_
 refine za ?_
 refine zba ?_
 refine zg ?_
 refine zy ?_
 refine za ?_
 refine rpZ 42 rfl (op_idx_sl0 v rfl (oT rfl) (oT rfl) (by intro _; exact ⟨rfl, by omega⟩)) ?_
 refine Run.eff (dd := none) rfl rfl (op_store_flat rfl (oT rfl) oC tC rfl rfl (by first | rfl | assumption) tS) ?_
 refine zc ?_
 refine nK2 ?_
 refine zb ?_
 refine za ?_
 refine za ?_
 refine zp ?_
 refine zc ?_
 refine nK2 ?_
 refine Next.weak [0, 1, 2, 3, 4] [] (by rfl) (keepsN hC _ rfl) (G' := [(0, .ptr 0 3 0 0), (5, IV .i64 (h.place v)), (6, IV .i64 ((h.it.length : Int) - 1)), (45, BV (decide (h.place v < (h.it.length : Int) - 1)))]) (H' := HX ct) wG (by exact ⟨ent_same rfl rfl (by rw [c1, q2, q3]; simp only [List.length_set]; rfl) tL, ⟨ent_same rfl rfl (flEq rfl (by rw [q1, List.map_take])) trivial, ⟨ent_same rfl rfl (flEq rfl (by rw [q2, List.map_set]; rfl)) trivial, ⟨ent_same rfl rfl (flEq rfl (by rw [q3])) trivial, trivial⟩⟩⟩⟩) wN ?_
 refine nK2 ?_
 refine n_cond _ rfl (fun hb => ?_) (fun hb => ?_)
 ·have hlt2 : (h.place v).toNat < h.it.length - 1 := by simp at hb; omega
  rw [hd1 hlt2]
  refine nK2 ?_
  refine zb ?_
  refine za ?_
  refine za ?_
  refine za ?_
  refine zcv ?_
  refine za ?_
  refine zcv ?_
  refine Run.eff (dd := some 52) rfl rfl (op_call (n := 4) (n' := 4) [0, 4, 2, 3] (fun _ => hst hlt2 _ _ (by omega) (by omega)) rfl (Opd.func _) (oS (oT rfl) (oS (oT rfl) (oS (oT rfl) (oS (oT rfl) Opds.nil)))) rfl rfl (Lent.of rfl rfl (by exact ⟨⟨rfl, rfl, rfl, tL⟩, ⟨rfl, rfl, rfl, trivial⟩, ⟨rfl, rfl, rfl, trivial⟩, ⟨rfl, rfl, rfl, trivial⟩, trivial⟩) rfl) rfl rfl rfl rfl rfl) ?_
  refine zc ?_
  refine nK2 ?_
  refine zb ?_
  refine ze ?_
  refine zc ?_
  refine nK2 ?_
  refine Next.weak [0, 1, 2, 3, 4] [] (by rfl) (keepsN hC _ rfl) (G' := [(4, BV true)]) (H' := HX (settleH ct (h.place v).toNat (h.it.length - 1))) wG wR wN ?_
  exact n_out1 rfl (by rfl) rfl rfl
 have hlt2 : ¬ (h.place v).toNat < h.it.length - 1 := by simp at hb; omega
 rw [hd2 hlt2]
 refine nK2 ?_
 refine zb ?_
 refine ze ?_
 refine zc ?_
 refine nK2 ?_
 refine Next.weak [0, 1, 2, 3, 4] [] (by rfl) (keepsN hC _ rfl) (G' := [(4, BV true)]) (H' := HX ct) wG wR wN ?_
 exact n_out1 rfl (by rfl) rfl rfl
open Go Go.RT Go.Proofs Go.Pl
set_option maxRecDepth 20000
set_option maxHeartbeats 4000000
theorem pop_none (h : Hq) (o : HI h) (he : h.it = []) : Meets Tryz.prog 81 [.ptr 0 3 0 0] 4 (HH h) (.fz (.tup [If .i64 0, If .i64 0, Bf false])) (HH h) 4 := by
 have hmn := min_c h o.ok
 rw [if_pos he, show h.item 0 = 0 by unfold Hq.item; rw [he]; rfl, show (!h.it.isEmpty) = false by rw [he]; rfl, show ((0 : Nat) : Int) = 0 from rfl] at hmn
 refine Meets.intro Tryz.func81 rfl (Nat.le_of_ble_eq_true rfl) fun C hC => ?_
 simp only [List.map, argEnv, Nat.reduceAdd]
 refine nK2 ?_
 refine zb ?_
 refine ze ?_
 refine ze ?_
 refine ze ?_
 refine zc ?_
 refine nK2 ?_
 refine zb ?_
 refine za ?_
 refine rlZ 7 rfl (op_call_read (n := 4) [0, 1, 2, 3] (fun _ => hmn) rfl (Opd.func _) (oS (oT rfl) Opds.nil) rfl rfl (Lent.of rfl rfl (by exact ⟨⟨rfl, rfl, rfl, tL⟩, ⟨rfl, rfl, rfl, trivial⟩, ⟨rfl, rfl, rfl, trivial⟩, ⟨rfl, rfl, rfl, trivial⟩, trivial⟩) rfl) rfl) ?_
 refine za ?_
 refine zi ?_
 refine zi ?_
 refine zi ?_
 refine zd ?_
 refine zd ?_
 refine zd ?_
 refine zc ?_
 refine nK2 ?_
 refine zb ?_
 refine za ?_
 refine zc ?_
 refine nK2 ?_
 refine n_cond _ rfl (fun hb => ?_) (fun hb => ?_)
 ·exfalso; simp at hb
 refine nK2 ?_
 refine zb ?_
 refine za ?_
 refine za ?_
 refine za ?_
 refine zd ?_
 refine zd ?_
 refine zd ?_
 refine zc ?_
 refine nK2 ?_
 refine Next.weak [0, 1, 2, 3] [] (by rfl) (keepsN hC _ rfl) (G' := [(2, IV .i64 0), (3, IV .i64 0), (4, BV false)]) (H' := HH h) wG wR wN ?_
 exact n_out3 rfl (by rfl) rfl rfl (.inl ⟨_, _, _, rfl, rfl, rfl, rfl⟩)
theorem pop_some (h : Hq) (o : HI h) (hne : 0 < h.it.length) (hm : h.it.length ≤ 1999999) : Meets Tryz.prog 81 [.ptr 0 3 0 0] 4 (HH h) (.fz (.tup [If .i64 (h.item 0 : Nat), If .i64 (h.key (h.item 0)), Bf true])) (HX (dropH h (h.item 0))) 5 := by
 have hmn := min_c h o.ok
 rw [if_neg (fun e => by rw [e] at hne; exact absurd hne (by decide)), show (!h.it.isEmpty) = true by cases hq : h.it <;> simp_all] at hmn
 have hd := drop_c h o (h.item 0) (o.ok.item hne) (by rw [o.inv 0 hne]; decide) hm
 generalize h.item 0 = v at *
 generalize h.key v = k at *
 generalize dropH h v = h' at *
 refine Meets.intro Tryz.func81 rfl (Nat.le_of_ble_eq_true rfl) fun C hC => ?_
 simp only [List.map, argEnv, Nat.reduceAdd]
 refine nK2 ?_
 refine zb ?_
 refine ze ?_
 refine ze ?_
 refine ze ?_
 refine zc ?_
 refine nK2 ?_
 refine zb ?_
 refine za ?_
 refine rlZ 7 rfl (op_call_read (n := 4) [0, 1, 2, 3] (fun _ => hmn) rfl (Opd.func _) (oS (oT rfl) Opds.nil) rfl rfl (Lent.of rfl rfl (by exact ⟨⟨rfl, rfl, rfl, tL⟩, ⟨rfl, rfl, rfl, trivial⟩, ⟨rfl, rfl, rfl, trivial⟩, ⟨rfl, rfl, rfl, trivial⟩, trivial⟩) rfl) rfl) ?_
 refine za ?_
 refine zi ?_
 refine zi ?_
 refine zi ?_
 refine zd ?_
 refine zd ?_
 refine zd ?_
 refine zc ?_
 refine nK2 ?_
 refine zb ?_
 refine za ?_
 refine zc ?_
 refine nK2 ?_
 refine n_cond _ rfl (fun hb => ?_) (fun hb => ?_)
 ·refine nK2 ?_
  refine zb ?_
  refine za ?_
  refine za ?_
  refine Run.eff (dd := some 14) rfl rfl (op_call (n := 4) (n' := 5) [0, 1, 2, 3] (fun _ => hd) rfl (Opd.func _) (oS (oT rfl) (oS (oT rfl) Opds.nil)) rfl rfl (Lent.of rfl rfl (by exact ⟨⟨rfl, rfl, rfl, tL⟩, ⟨rfl, rfl, rfl, trivial⟩, ⟨rfl, rfl, rfl, trivial⟩, ⟨rfl, rfl, rfl, trivial⟩, trivial⟩) rfl) rfl rfl rfl rfl rfl) ?_
  refine zc ?_
  refine nK2 ?_
  refine zb ?_
  refine za ?_
  refine za ?_
  refine za ?_
  refine zd ?_
  refine zd ?_
  refine zd ?_
  refine zc ?_
  refine nK2 ?_
  refine Next.weak [0, 1, 2, 3, 4] [] (by rfl) (keepsN hC _ rfl) (G' := [(2, IV .i64 v), (3, IV .i64 k), (4, BV true)]) (H' := HX h') wG wR wN ?_
  exact n_out3 rfl (by rfl) rfl rfl (.inl ⟨_, _, _, rfl, rfl, rfl, rfl⟩)
 exfalso; simp at hb
end Go.Proofs.YtcillieggklaaaaGreat
