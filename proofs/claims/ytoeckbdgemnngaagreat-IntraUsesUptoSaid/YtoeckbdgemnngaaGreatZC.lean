/- A part of the proof: RT28, RT29, RT30, RT31, RT32, RT33, RTZ, RT34, RT35, RT36, RT37, RT38, RT39, RT40, RT41, RT42, RT43, RT44, RT45, RT46, RT47, RT48, RT49, RT50, RT51, RTW, TabI, G0, HP0, I1, GP1, I2, I3, GP2. -/
import Derived.Test.YtoeckbdgemnngaaGreatZB
import Derived.Scope
import Derived.Maps.Keyed
import Derived.Carry
import Derived.RangeFuncSeq
import Derived.RangeFuncLeaves
import Derived.Laws.BytesString
import Derived.Maps.RangeRun
import Derived.Test.YtoeckbdgemnngaaGreatChecked
import Derived.Eval
set_option linter.all false
/- Labels and scopes; tests of pointers against nil; maps. -/
namespace Go.RT
open Go
set_option linter.all false
section
variable {r : Option Nat} {P : Program} {C : Cx} {N : Nat} {G : Env} {H : Hp} {nx : Nat} {Q : Exit → Act → World → Prop}
theorem n_label {l : Nat} (h : Next C N G H nx (Q .normal)) : Next C N G H nx ((Code.label l).wpM r P Q) := fun a w hr => wpIn_label (h a w hr)
theorem n_scope {c : Code} (h : Next C N G H nx (c.wpM none P (Exit.noGoto Q))) : Next C N G H nx ((Code.scope c).wpM none P Q) := fun a w hr => wpIn_wide.2 (wp_scope_straight (wpIn_wide.1 (h a w hr)))
theorem s_ng (h : Next C N G H nx (Q .normal)) : Next C N G H nx (Exit.noGoto Q .normal) := h
theorem s_ng_ret (h : Next C N G H nx (Q .ret)) : Next C N G H nx (Exit.noGoto Q .ret) := h
theorem s_ng_exit {id : Nat} (h : Next C N G H nx (Q (.exit id))) : Next C N G H nx (Exit.noGoto Q (.exit id)) := h
theorem nK2 {K K' : Act → World → Prop} (h : Next C N G H nx K')
    (hk : Next C N G H nx K' → Next C N G H nx K := by
      intro h
      (repeat (first | refine n_seq ?_ | refine n_block ?_ | refine n_skip ?_ | refine n_exit ?_ | refine n_ret ?_ | refine n_label ?_ | refine n_scope ?_ | refine s_then ?_ | refine s_then_ret ?_ | refine s_then_exit ?_ | refine s_blk _ ?_ | refine s_blk_ret ?_ | refine s_blk_hit ?_ | refine s_blk_miss rfl ?_ | refine s_ng ?_ | refine s_ng_ret ?_ | refine s_ng_exit ?_))
      exact h) : Next C N G H nx K := hk h
end
section
variable {P : Program} {o : Oper} {g : Bool} {G : Env} {x y : Operand} {t t' : TypeId} {H : Hp} {nx : Nat}
theorem run_ptrnilIn (d : Nat) {e : TypeId} (ht : P.underlying t = some (.pointer e)) (w : World) (ad : Addr) : (Op.equalIn (d + 1) t (.pointer (some ad)) (.pointer none)).run P w = .ok false w := by
  simp [Op.equalIn, run_underlying ht]
theorem run_ptrnil {e : TypeId} (ht : P.underlying t = some (.pointer e)) (w : World) (ad : Addr) : (Op.equal t (.pointer (some ad)) (.pointer none)).run P w = .ok false w := run_ptrnilIn 9999 ht w ad
theorem op_eqlnilp {e : TypeId} {id sz row col : Nat} [hd : TyD P t (.pointer e)] (ho : o.op = .binOp .eql t x (.const (.pointer none)) t') (hx : Opd G g x (.ptr id sz row col)) : OpP P o g G (BV false) :=
  .of fun S m a w hg ha => by
    have h1 := hx.rep hg (by simp [ho, Op.operands]) ha
    generalize hv : a.eval x = v at h1
    cases h1 with
    | ptr _ _ _ _ b hb =>
      refine ⟨.bool false, ?_, .fz _ _ (.lit _)⟩
      have hk : a.eval (.const (.pointer none)) = .pointer none := rfl
      have h0 : (eqGuard .eql t x (.const (.pointer none)) (.pointer (some ⟨b, row * sz + col, none⟩)) (.pointer none)).run P w = .ok () w := rfl
      have h2 := run_ptrnil (P := P) hd.h w ⟨b, row * sz + col, none⟩
      simp only [execOp, ho, hv, hk, Sem.run_bind, h0, binOp, h2, Result.andThen_ok, Sem.run_pure]
theorem op_neqnilp {e : TypeId} {id sz row col : Nat} [hd : TyD P t (.pointer e)] (ho : o.op = .binOp .neq t x (.const (.pointer none)) t') (hx : Opd G g x (.ptr id sz row col)) : OpP P o g G (BV true) :=
  .of fun S m a w hg ha => by
    have h1 := hx.rep hg (by simp [ho, Op.operands]) ha
    generalize hv : a.eval x = v at h1
    cases h1 with
    | ptr _ _ _ _ b hb =>
      refine ⟨.bool true, ?_, .fz _ _ (.lit _)⟩
      have hk : a.eval (.const (.pointer none)) = .pointer none := rfl
      have h0 : (eqGuard .neq t x (.const (.pointer none)) (.pointer (some ⟨b, row * sz + col, none⟩)) (.pointer none)).run P w = .ok () w := rfl
      have h2 := run_ptrnil (P := P) hd.h w ⟨b, row * sz + col, none⟩
      simp only [execOp, ho, hv, hk, Sem.run_bind, h0, binOp, h2, Result.andThen_ok, Sem.run_pure, Bool.not_false]
/-! ## maps -/
mutual
/-- the value of a reading that has no memory -/
def valF : FV → Value
  | .lit v => v
  | .agg fs => .agg (valFs fs).toArray
  | .tup fs => .tuple (valFs fs).toArray
  | _ => undef
def valFs : List FV → List Value
  | [] => []
  | f :: r => valF f :: valFs r
end
theorem valFs_eq : ∀ fs, valFs fs = fs.map valF
  | [] => rfl
  | f :: r => by simp [valFs, valFs_eq r]
theorem FRep.val {w : World} {S : Nat → Prop} {v : Value} {f : FV} (h : FRep w S v f) : RT.memless f = true → v = valF f := by
  induction h with
  | lit v => exact fun _ => rfl
  | agg cs fs hl _ _ ih =>
    intro hm
    simp only [RT.memless] at hm
    simp only [valF, valFs_eq]
    congr 1
    refine Array.ext' (List.ext_getElem? fun i => ?_)
    simp only [Array.getElem?_toList, List.getElem?_map]
    cases hc : cs[i]? with
    | none =>
      rw [List.getElem?_eq_none (by rw [← hl]; exact Array.getElem?_eq_none_iff.1 hc)]; rfl
    | some c =>
      have hi : i < fs.length := by rw [← hl]; exact (Array.getElem?_eq_some_iff.1 hc).1
      rw [List.getElem?_eq_getElem hi]
      exact congrArg some (ih i c fs[i] hc (List.getElem?_eq_getElem hi) (memlesss_mem hm _ (List.getElem_mem hi)))
  | tup cs fs hl _ ih =>
    intro hm
    simp only [RT.memless] at hm
    simp only [valF, valFs_eq]
    congr 1
    refine Array.ext' (List.ext_getElem? fun i => ?_)
    simp only [Array.getElem?_toList, List.getElem?_map]
    cases hc : cs[i]? with
    | none =>
      rw [List.getElem?_eq_none (by rw [← hl]; exact Array.getElem?_eq_none_iff.1 hc)]; rfl
    | some c =>
      have hi : i < fs.length := by rw [← hl]; exact (Array.getElem?_eq_some_iff.1 hc).1
      rw [List.getElem?_eq_getElem hi]
      exact congrArg some (ih i c fs[i] hc (List.getElem?_eq_getElem hi) (memlesss_mem hm _ (List.getElem_mem hi)))
  | clo => exact fun hm => by simp [RT.memless] at hm
  | nil => exact fun hm => by simp [RT.memless] at hm
  | vals => exact fun hm => by simp [RT.memless] at hm
  | cellp => exact fun hm => by simp [RT.memless] at hm
  | mapn => exact fun hm => by simp [RT.memless] at hm
  | mapv => exact fun hm => by simp [RT.memless] at hm
/-- lists of pairs, as maps -/
def mget {κ ν : Type} [DecidableEq κ] : List (κ × ν) → κ → Option ν
  | [], _ => none
  | p :: r, k => if p.1 = k then some p.2 else mget r k
def mput {κ ν : Type} [DecidableEq κ] : List (κ × ν) → κ → ν → List (κ × ν)
  | [], k, v => [(k, v)]
  | p :: r, k, v => if p.1 = k then (k, v) :: r else p :: mput r k v
abbrev OMap {κ ν : Type} (ek : κ → FV) (ev : ν → FV) (l : List (κ × ν)) : Option Ob := some (.map (l.map fun p => ek p.1) (l.map fun p => ev p.2))
theorem mget_mput {κ ν : Type} [DecidableEq κ] : ∀ (l : List (κ × ν)) (k : κ) (v : ν) (k' : κ), mget (mput l k v) k' = if k = k' then some v else mget l k'
  | [], k, v, k' => rfl
  | p :: r, k, v, k' => by
    simp only [mput]
    by_cases h : p.1 = k
    · rw [if_pos h]
      simp only [mget]
      by_cases h2 : k = k'
      · simp [h2]
      · simp [h2, h]
    · rw [if_neg h]
      simp only [mget]
      rw [mget_mput r k v k']
      by_cases h2 : p.1 = k'
      · rw [if_pos h2, if_pos h2, if_neg (by rw [← h2]; exact Ne.symm h)]
      · rw [if_neg h2, if_neg h2]
theorem mget_none {κ ν : Type} [DecidableEq κ] : ∀ {l : List (κ × ν)} {k : κ}, (∀ p ∈ l, p.1 ≠ k) → mget l k = none
  | [], _, _ => rfl
  | p :: r, k, h => by
    simp only [mget]; rw [if_neg (h p (List.mem_cons_self ..))]; exact mget_none fun q hq => h q (List.mem_cons_of_mem _ hq)
theorem mput_keys {κ ν : Type} [DecidableEq κ] : ∀ (l : List (κ × ν)) (k : κ) (v : ν) (p : κ × ν), p ∈ mput l k v → p.1 = k ∨ p ∈ l
  | [], k, v, p, h => by simp [mput] at h; subst h; exact .inl rfl
  | q :: r, k, v, p, h => by
    simp only [mput] at h
    by_cases hq : q.1 = k
    · rw [if_pos hq] at h
      rcases List.mem_cons.1 h with rfl | h
      · exact .inl rfl
      · exact .inr (List.mem_cons_of_mem _ h)
    · rw [if_neg hq] at h
      rcases List.mem_cons.1 h with rfl | h
      · exact .inr (List.mem_cons_self ..)
      · exact (mput_keys r k v p h).imp id (List.mem_cons_of_mem _)
theorem mput_len {κ ν : Type} [DecidableEq κ] : ∀ (l : List (κ × ν)) (k : κ) (v : ν), (mput l k v).length ≤ l.length + 1
  | [], _, _ => by simp [mput]
  | q :: r, k, v => by
    simp only [mput]
    split
    · simp
    · have := mput_len r k v; simp only [List.length_cons]; omega
/-- keys of a type, encoded -/
class KEnc (P : Program) (kt : TypeId) (κ : Type) (ek : κ → FV) (okK : outParam (κ → Prop)) : Prop where
  keyed : Maps.Keyed P kt
  ml : ∀ k, memless (ek k) = true
  some : ∀ k, okK k → ∃ l, keyOf P kt (valF (ek k)) = some l
  inj : ∀ a b, valF (ek a) = valF (ek b) → a = b
theorem kenc_int {kt : TypeId} {q : IntKind} (hk : P.underlying kt = some (.int q)) : KEnc P kt Int (fun n => If q n) (inr q) :=
  ⟨Maps.int_keyed hk, fun _ => rfl, fun n hn => ⟨_, Maps.keyOf_int_mk hk (by cases q <;> simp only [inr] at hn <;> simp [Lit.wf, IntKind.min, IntKind.max, IntKind.bits, IntKind.signed] <;> omega)⟩, fun a b h => by simpa [valF] using h⟩
open Go.ChangeMaps (setBlock)
theorem BornOk.nil (c : Nat) : BornOk #[] c := ⟨fun i j e e' h => by simp at h, fun i e h => by simp at h⟩
theorem BornOk.push {arr : Array MapEntry} {c : Nat} (h : BornOk arr c) (e : MapEntry) (he : e.born = c) : BornOk (arr.push e) (c + 1) := by
  refine ⟨fun i j a b ha hb hab => ?_, fun i a ha => ?_⟩
  · rw [Array.getElem?_push] at ha hb
    by_cases hi : i = arr.size <;> by_cases hj : j = arr.size
    · rw [hi, hj]
    · rw [if_pos hi] at ha; rw [if_neg hj] at hb; cases ha
      have := h.2 j b hb; omega
    · rw [if_neg hi] at ha; rw [if_pos hj] at hb; cases hb
      have := h.2 i a ha; omega
    · rw [if_neg hi] at ha; rw [if_neg hj] at hb
      exact h.1 i j a b ha hb hab
  · rw [Array.getElem?_push] at ha
    by_cases hi : i = arr.size
    · rw [if_pos hi] at ha; cases ha; omega
    · rw [if_neg hi] at ha; have := h.2 i a ha; omega
theorem BornOk.modify {arr : Array MapEntry} {c : Nat} (h : BornOk arr c) (j : Nat) (f : MapEntry → MapEntry) (hf : ∀ e, (f e).born = e.born) : BornOk (arr.modify j f) c := by
  have key : ∀ (i : Nat) (a : MapEntry), (arr.modify j f)[i]? = some a → ∃ a' : MapEntry, arr[i]? = some a' ∧ a'.born = a.born := fun i a ha => by
    rw [Array.getElem?_modify] at ha
    by_cases hi : j = i
    · rw [if_pos hi] at ha
      cases hx : arr[i]? with
      | none => rw [hx] at ha; cases ha
      | some x => rw [hx] at ha; cases ha; exact ⟨x, rfl, (hf x).symm⟩
    · rw [if_neg hi] at ha; exact ⟨a, ha, rfl⟩
  refine ⟨fun i k a b ha hb hab => ?_, fun i a ha => ?_⟩
  · obtain ⟨a', h1, h2⟩ := key i a ha
    obtain ⟨b', h3, h4⟩ := key k b hb
    exact h.1 i k a' b' h1 h3 (by rw [h2, h4, hab])
  · obtain ⟨a', h1, h2⟩ := key i a ha
    rw [← h2]; exact h.2 i a' h1
theorem setB_same {w : World} {b : Nat} {o : Obj} (h : b < w.heap.size) : (setBlock w b o).heap[b]? = some o := by simp [setBlock, h]
theorem setB_other {w : World} {b k : Nat} {o : Obj} (h : k ≠ b) : (setBlock w b o).heap[k]? = w.heap[k]? := by simp [setBlock, Ne.symm h]
theorem Mem.writeM {C : Cx} {H : Hp} {nx : Nat} {S : Nat → Prop} {m : Ids} {w : World} (hm : Mem C H nx S m w) {id b : Nat} {o o' : Ob} (hid : hlook H id = some o) (hb : m id = some (some b)) {arr arr' : Array MapEntry} {cl cl' : Nat}
    (hc : w.heap[b]? = some (.map arr cl)) (hpl : o'.plain) (ho : ∀ w', Le S m w S m w' → w'.heap[b]? = some (.map arr' cl') → ORep w' S m id o') :
    Mem C ((id, some o') :: H) nx S m (setBlock w b (.map arr' cl')) ∧ Le S m w S m (setBlock w b (.map arr' cl')) := by
  have hbl : b < w.heap.size := (Array.getElem?_eq_some_iff.1 hc).1
  have hnew : (setBlock w b (.map arr' cl')).heap[b]? = some (.map arr' cl') := setB_same hbl
  have hold : ∀ k, k ≠ b → (setBlock w b (.map arr' cl')).heap[k]? = w.heap[k]? := fun k hk => setB_other hk
  have hsz : (setBlock w b (.map arr' cl')).heap.size = w.heap.size := by simp [setBlock]
  obtain ⟨hS, hlt, hor⟩ := hm.blk id o b hid hb
  have hle : Le S m w S m (setBlock w b (.map arr' cl')) := by
    refine ⟨fun _ h => h, fun k hk => hold k (fun e => hS (e ▸ hk)), fun i x hi => hi, fun k n hr => ?_⟩
    obtain ⟨c1, e1, fr, h1, h2⟩ := hr
    by_cases hk : k = b
    · subst hk; rw [hc] at h1; cases h1
    · exact ⟨c1, e1, fr, (hold k hk).trans h1, h2⟩
  have ex : ∀ id' o2, hlook ((id, some o') :: H) id' = some o2 → ∃ o3, hlook H id' = some o3 := fun id' o2 ho2 => by
    rw [hlook_cons] at ho2
    by_cases hi : id = id'
    · subst hi; exact ⟨_, hid⟩
    · rw [if_neg hi] at ho2; exact ⟨_, ho2⟩
  refine ⟨hm.step hle ⟨rfl, Nat.le_refl _⟩ rfl rfl (fun a _ => ?_) (by rw [hsz]; exact Nat.le_refl _) (fun k hk hno => hold k (fun e => ?_)) (fun b hb => .inl hb) (fun id' o2 ho2 => ?_) (fun id' o2 b2 ho2 hb2 => ?_) (fun i1 i2 o1 o2 b2 h1 h2 h3 h4 => ?_) (fun k hk => by rw [hsz]; exact hm.stab k hk) hm.fresh ?_, hle⟩
  · by_cases hab : a.block = b
    · simp only [World.frozen?, hab, hnew, hc]
    · simp only [World.frozen?, hold _ hab]
  · subst e; rcases hor with h | h
    · omega
    · exact hno h
  · rw [hlook_cons] at ho2
    by_cases hi : id = id'
    · rw [if_pos hi] at ho2; cases ho2; subst hi; exact ho _ hle hnew
    · rw [if_neg hi] at ho2
      exact (hm.objs id' o2 ho2).mono hle fun b2 hb2 => hold b2 (fun e => hi (hm.inj id id' o o2 b hid ho2 hb (e ▸ hb2)))
  · obtain ⟨o3, ho3⟩ := ex id' o2 ho2
    obtain ⟨h1, h2, h3⟩ := hm.blk id' o3 b2 ho3 hb2
    exact ⟨h1, by rw [hsz]; exact h2, h3⟩
  · obtain ⟨_, k1⟩ := ex i1 o1 h1
    obtain ⟨_, k2⟩ := ex i2 o2 h2
    exact hm.inj i1 i2 _ _ b2 k1 k2 h3 h4
  · refine hm.nkeep hle (by rw [hsz]; exact Nat.le_refl _) (fun id' sz i j isz irows hO => ?_) (fun id' sz i j isz irows b2 c2 e2 u hO k1 k2 k3 => ⟨c2, e2, (hold b2 (fun e => by subst e; rw [hc] at k2; cases k2)).trans k2, k3⟩) (fun b' h1 h2 h3 => ⟨hold b' (fun e => h3 _ _ hid (e ▸ hb)), h2, fun id2 o2 ho2 => ?_⟩)
    · by_cases hi : id = id'
      · exact (hO.notPlain (o := o') (by rw [hlook_cons, if_pos hi]) hpl).elim
      · exact hO.of fun o2 h => by rwa [hlook_cons, if_neg hi] at h
    · obtain ⟨o3, ho3⟩ := ex _ _ ho2; exact h3 _ _ ho3
theorem Mem.newM {C : Cx} {H : Hp} {nx : Nat} {S : Nat → Prop} {m : Ids} {w : World} (hm : Mem C H nx S m w) :
    Mem C ((nx, some (.map [] [])) :: H) (nx + 1) S (setM m nx (some w.heap.size)) (w.alloc (.map #[] 0)) ∧ Le S m w S (setM m nx (some w.heap.size)) (w.alloc (.map #[] 0)) := by
  have hnew : (w.alloc (.map #[] 0)).heap[w.heap.size]? = some (.map #[] 0) := heap_alloc_new w _
  have hold : ∀ b, b < w.heap.size → (w.alloc (.map #[] 0)).heap[b]? = w.heap[b]? := fun b hb => RowKit.Below.heap_alloc w _ b hb
  have hids : ∀ i x, m i = some x → i ≠ nx := fun i x hi => by have := hm.lt hi; omega
  have hle : Le S m w S (setM m nx (some w.heap.size)) (w.alloc (.map #[] 0)) := by
    refine ⟨fun _ h => h, fun b hb => hold b (hm.stab b hb), fun i x hi => by rw [setM_other (hids i x hi)]; exact hi, fun b n hr => ?_⟩
    obtain ⟨c', e', fr, h1, h2⟩ := hr
    have : b < w.heap.size := (Array.getElem?_eq_some_iff.1 h1).1
    exact ⟨c', e', fr, (hold b this).trans h1, h2⟩
  refine ⟨hm.step hle ⟨rfl, Nat.le_refl _⟩ rfl rfl (fun a ha => ?_) (by simp) (fun b hb _ => hold b (Nat.lt_of_lt_of_le hb hm.size)) (fun b hb => .inl hb) (fun id o' ho' => ?_) (fun id o' b ho' hb => ?_) (fun id id' o' o'' b h1 h2 h3 h4 => ?_) (fun b hb => ?_) (fun i hi => ?_) ?_, hle⟩
  · simp only [World.frozen?, hold _ ha]
  · rw [hlook_cons] at ho'
    by_cases hid : nx = id
    · rw [if_pos hid] at ho'; cases ho'; subst hid
      exact ⟨_, #[], 0, setM_self _ _ _, hnew, rfl, rfl, fun i e f h => by simp at h, fun i e f h => by simp at h, BornOk.nil 0⟩
    · rw [if_neg hid] at ho'
      exact (hm.objs id o' ho').mono hle fun b hb => hold b (hm.blk id o' b ho' hb).2.1
  · rw [hlook_cons] at ho'
    by_cases hid : nx = id
    · subst hid
      rw [setM_self] at hb; cases hb
      exact ⟨fun h => Nat.lt_irrefl _ (hm.stab _ h), by simp, .inl hm.size⟩
    · rw [if_neg hid] at ho'
      rw [setM_other (fun h => hid h.symm)] at hb
      obtain ⟨h1, h2, h3⟩ := hm.blk id o' b ho' hb
      exact ⟨h1, by simp; omega, h3⟩
  · rw [hlook_cons] at h1 h2
    by_cases ha : nx = id <;> by_cases hb : nx = id'
    · exact ha.symm.trans hb
    · subst ha
      rw [if_neg hb] at h2
      rw [setM_self] at h3; cases h3
      rw [setM_other (fun h => hb h.symm)] at h4
      exact absurd (hm.blk id' o'' _ h2 h4).2.1 (Nat.lt_irrefl _)
    · subst hb
      rw [if_neg ha] at h1
      rw [setM_self] at h4; cases h4
      rw [setM_other (fun h => ha h.symm)] at h3
      exact absurd (hm.blk id o' _ h1 h3).2.1 (Nat.lt_irrefl _)
    · rw [if_neg ha] at h1; rw [if_neg hb] at h2
      rw [setM_other (fun h => ha h.symm)] at h3; rw [setM_other (fun h => hb h.symm)] at h4
      exact hm.inj id id' o' o'' b h1 h2 h3 h4
  · have := hm.stab b hb; simp; omega
  · rw [setM_other (by omega)]; exact hm.fresh i (by omega)
  · have hOE : ∀ id sz i j isz irows, OwnE ((nx, some (.map [] [])) :: H) id sz i j isz irows → OwnE H id sz i j isz irows := fun id sz i j isz irows hO => by
      by_cases hid : nx = id
      · exact (hO.notPlain (o := .map [] []) (by rw [hlook_cons, if_pos hid]) trivial).elim
      · exact hO.of fun o2 h => by rwa [hlook_cons, if_neg hid] at h
    refine hm.nkeep hle (by simp) hOE (fun id sz i j isz irows b c2 e2 u hO k1 k2 k3 => ⟨c2, e2, (hold b (Array.getElem?_eq_some_iff.1 k2).1).trans k2, k3⟩) (fun b' h1 h2 h3 => ⟨hold b' h1, h2, fun id2 o2 ho2 hc => ?_⟩)
    rw [hlook_cons] at ho2
    by_cases hid : nx = id2
    · subst hid; rw [setM_self] at hc; cases hc; exact Nat.lt_irrefl _ h1
    · rw [if_neg hid] at ho2; rw [setM_other (fun h => hid h.symm)] at hc; exact h3 _ _ ho2 hc
theorem op_makeMap (ho : o.op = .makeMap t none) : OpS P o g G H nx (.mp nx) ((nx, some (.map [] [])) :: H) (nx + 1) :=
  ⟨fun C S m a w hm hg ha K Q hK => by
    obtain ⟨k1, k2⟩ := hm.newM
    refine wp_value (w' := w.alloc (.map #[] 0)) (v := .map (some w.heap.size)) ?_ (hK _ _ _ _ k1 k2 (.mp _ _ (setM_self _ _ _)))
    have hmk : (Instr.makeMap t none).run P w = .ok (.map (some w.heap.size)) (w.alloc (.map #[] 0)) := rfl
    simp only [execOp, ho, Option.map_none, Sem.run_bind, hmk, Result.andThen_ok, Sem.run_pure]⟩
section
variable {κ ν : Type} [DecidableEq κ] {ek : κ → FV} {ev : ν → FV} {okK : κ → Prop} {kt et : TypeId}
theorem mget_at : ∀ {l : List (κ × ν)}, (l.map (·.1)).Nodup → ∀ {j : Nat} {p : κ × ν}, l[j]? = some p → mget l p.1 = some p.2
  | q :: r, hn, 0, p, h => by simp at h; subst h; simp [mget]
  | q :: r, hn, j + 1, p, h => by
    simp only [List.map_cons, List.nodup_cons] at hn
    have hr : r[j]? = some p := by simpa using h
    simp only [mget]
    rw [if_neg (fun e => hn.1 (by rw [e]; exact List.mem_map_of_mem (List.mem_of_getElem? hr)))]
    exact mget_at hn.2 hr
theorem mput_at : ∀ {l : List (κ × ν)}, (l.map (·.1)).Nodup → ∀ {j : Nat} {p : κ × ν} {v : ν}, l[j]? = some p → mput l p.1 v = l.set j (p.1, v)
  | q :: r, hn, 0, p, v, h => by simp at h; subst h; simp [mput]
  | q :: r, hn, j + 1, p, v, h => by
    simp only [List.map_cons, List.nodup_cons] at hn
    have hr : r[j]? = some p := by simpa using h
    simp only [mput, List.set_cons_succ]
    rw [if_neg (fun e => hn.1 (by rw [e]; exact List.mem_map_of_mem (List.mem_of_getElem? hr)))]
    rw [mput_at hn.2 hr]
theorem mput_new : ∀ {l : List (κ × ν)} {k : κ} {v : ν}, (∀ p ∈ l, p.1 ≠ k) → mput l k v = l ++ [(k, v)]
  | [], _, _, _ => rfl
  | q :: r, k, v, h => by
    simp only [mput]
    rw [if_neg (h q (List.mem_cons_self ..)), mput_new fun p hp => h p (List.mem_cons_of_mem _ hp)]; rfl
theorem mput_nodup : ∀ {l : List (κ × ν)} {k : κ} {v : ν}, (l.map (·.1)).Nodup → ((mput l k v).map (·.1)).Nodup
  | [], _, _, _ => by simp [mput]
  | q :: r, k, v, h => by
    simp only [List.map_cons, List.nodup_cons] at h
    simp only [mput]
    by_cases hq : q.1 = k
    · rw [if_pos hq]; simp only [List.map_cons, List.nodup_cons]; rw [← hq]; exact h
    · rw [if_neg hq]
      simp only [List.map_cons, List.nodup_cons]
      refine ⟨fun hm => ?_, mput_nodup h.2⟩
      obtain ⟨p, hp, he⟩ := List.mem_map.1 hm
      rcases mput_keys r k v p hp with h1 | h1
      · exact hq (by rw [← he]; exact h1)
      · exact h.1 (by rw [← he]; exact List.mem_map_of_mem h1)
/-- the search for a key in a map's block -/
theorem map_find [K : KEnc P kt κ ek okK] {w : World} {S : Nat → Prop} {l : List (κ × ν)} {arr : Array MapEntry} (hs : arr.size = (l.map fun p => ek p.1).length) (hk : ∀ (i : Nat) (e : MapEntry) (f : FV), arr[i]? = some e → (l.map fun p => ek p.1)[i]? = some f → FRep w S e.key f)
    (hok : ∀ p ∈ l, okK p.1) {k : κ} (hkk : okK k) (w2 : World) :
    ((Instr.findKey kt (valF (ek k)) arr.toList).run P w2 = .ok none w2 ∧ ∀ p ∈ l, p.1 ≠ k) ∨ ∃ j e p, (Instr.findKey kt (valF (ek k)) arr.toList).run P w2 = .ok (some (j, e.val)) w2 ∧ arr[j]? = some e ∧ l[j]? = some p ∧ p.1 = k ∧ e.key = valF (ek k) := by
  obtain ⟨lx, hlx⟩ := K.some k hkk
  have hkey : ∀ (i : Nat) (e : MapEntry), arr[i]? = some e → ∃ p, l[i]? = some p ∧ e.key = valF (ek p.1) := fun i e he => by
    have hi : i < l.length := by have := (Array.getElem?_eq_some_iff.1 he).1; simp at hs; omega
    exact ⟨l[i], List.getElem?_eq_getElem hi, (hk i e _ he (by rw [List.getElem?_map, List.getElem?_eq_getElem hi]; rfl)).val (K.ml _)⟩
  rcases K.keyed.find w2 hlx arr.toList (fun e he => by
    obtain ⟨i, hi⟩ := List.mem_iff_getElem?.1 he
    rw [Array.getElem?_toList] at hi
    obtain ⟨p, hp, h1⟩ := hkey i e hi
    obtain ⟨l1, h2⟩ := K.some p.1 (hok p (List.mem_of_getElem? hp))
    exact ⟨l1, by rw [h1]; exact h2⟩) with ⟨h1, h2⟩ | ⟨j, e, h1, h2, h3⟩
  · refine .inl ⟨h1, fun p hp he => ?_⟩
    obtain ⟨i, hi⟩ := List.mem_iff_getElem?.1 hp
    have hil : i < arr.size := by rw [hs]; simp; exact (List.getElem?_eq_some_iff.1 hi).1
    obtain ⟨p', hp', h4⟩ := hkey i arr[i] (Array.getElem?_eq_getElem hil)
    rw [hi] at hp'; cases hp'
    exact h2 arr[i] (by simp) (by rw [h4, he])
  · rw [Array.getElem?_toList] at h2
    obtain ⟨p, hp, h4⟩ := hkey j e h2
    exact .inr ⟨j, e, p, h1, h2, hp, K.inj _ _ (by rw [← h4, h3]), h3⟩
theorem op_lookup {sz by_ : Nat} {z : Value} {id : Nat} {l : List (κ × ν)} {k : κ} (d0 : ν) [K : KEnc P kt κ ek okK] [hd : TyD P t (.map kt et)] [hn : TyN P et sz by_ z] (ho : o.op = .lookup t x y false) (hx : Opd G g x (.mp id)) (hy : Opd G g y (.fz (ek k)))
    (hl : hlook H id = OMap ek ev l) (hh : g = true → (l.map (·.1)).Nodup ∧ (∀ p ∈ l, okK p.1) ∧ okK k) (hz : ∀ w S, FRep w S z (ev d0)) : OpL P o g G H [id] (.fz (ev ((mget l k).getD d0))) := fun H' nx' hag =>
  have hl := (hag id (by simp)).trans hl
  .of fun C S m a w hm hg ha => by
    have h1 := hx.rep hg (by simp [ho, Op.operands]) ha
    have h2 := (hy.rep hg (by simp [ho, Op.operands]) ha).frz.val (K.ml k)
    obtain ⟨hnd, hok, hkk⟩ := hh hg
    obtain ⟨b, arr, cl, k1, k2, k3, k4, k5, k6, k7⟩ := hm.objs _ _ hl
    obtain ⟨lx, hlx⟩ := K.some k hkk
    generalize hv : a.eval x = v at h1
    cases h1 with
    | mp _ b2 hb2 =>
      rw [hb2] at k1; cases k1
      have hck := K.keyed.check w arr.isEmpty hlx
      rcases map_find (P := P) (kt := kt) k3 k5 hok hkk w with ⟨q1, q2⟩ | ⟨j, e, p, q1, q2, q3, q4, q5⟩
      · refine ⟨z, ?_, .fz _ _ (by rw [mget_none q2]; exact hz _ _)⟩
        simp only [execOp, ho, hv, h2, Instr.lookup, Sem.run_bind, run_underlying hd.h, MapKept.run_getObj_map k2, hck, q1, run_zero hn, Result.andThen_ok, Sem.run_pure, Bool.false_eq_true, if_false]
      · refine ⟨e.val, ?_, .fz _ _ (by rw [← q4, mget_at hnd q3]; exact k6 j e _ q2 (by rw [List.getElem?_map, q3]; rfl))⟩
        simp only [execOp, ho, hv, h2, Instr.lookup, Sem.run_bind, run_underlying hd.h, MapKept.run_getObj_map k2, hck, q1, Result.andThen_ok, Sem.run_pure, Bool.false_eq_true, if_false]
theorem op_lookup2 {sz by_ : Nat} {z : Value} {id : Nat} {l : List (κ × ν)} {k : κ} (d0 : ν) [K : KEnc P kt κ ek okK] [hd : TyD P t (.map kt et)] [hn : TyN P et sz by_ z] (ho : o.op = .lookup t x y true) (hx : Opd G g x (.mp id)) (hy : Opd G g y (.fz (ek k)))
    (hl : hlook H id = OMap ek ev l) (hh : g = true → (l.map (·.1)).Nodup ∧ (∀ p ∈ l, okK p.1) ∧ okK k) (hz : ∀ w S, FRep w S z (ev d0)) : OpL P o g G H [id] (.fz (.tup [ev ((mget l k).getD d0), Bf (mget l k).isSome])) := fun H' nx' hag =>
  have hl := (hag id (by simp)).trans hl
  .of fun C S m a w hm hg ha => by
    have h1 := hx.rep hg (by simp [ho, Op.operands]) ha
    have h2 := (hy.rep hg (by simp [ho, Op.operands]) ha).frz.val (K.ml k)
    obtain ⟨hnd, hok, hkk⟩ := hh hg
    obtain ⟨b, arr, cl, k1, k2, k3, k4, k5, k6, k7⟩ := hm.objs _ _ hl
    obtain ⟨lx, hlx⟩ := K.some k hkk
    have tup : ∀ (v1 : Value) (f1 : FV) (bb : Bool), FRep w S v1 f1 → Rep w S m (.tuple #[v1, .bool bb]) (.fz (.tup [f1, Bf bb])) := fun v1 f1 bb h => rep_tup2 (.fz _ _ h) (.fz _ _ (.lit _))
    generalize hv : a.eval x = v at h1
    cases h1 with
    | mp _ b2 hb2 =>
      rw [hb2] at k1; cases k1
      have hck := K.keyed.check w arr.isEmpty hlx
      rcases map_find (P := P) (kt := kt) k3 k5 hok hkk w with ⟨q1, q2⟩ | ⟨j, e, p, q1, q2, q3, q4, q5⟩
      · refine ⟨.tuple #[z, .bool false], ?_, by rw [mget_none q2]; exact tup _ _ _ (hz _ _)⟩
        simp only [execOp, ho, hv, h2, Instr.lookup, Sem.run_bind, run_underlying hd.h, MapKept.run_getObj_map k2, hck, q1, run_zero hn, Result.andThen_ok, Sem.run_pure, if_true]
      · refine ⟨.tuple #[e.val, .bool true], ?_, by rw [← q4, mget_at hnd q3]; exact tup _ _ _ (k6 j e _ q2 (by rw [List.getElem?_map, q3]; rfl))⟩
        simp only [execOp, ho, hv, h2, Instr.lookup, Sem.run_bind, run_underlying hd.h, MapKept.run_getObj_map k2, hck, q1, Result.andThen_ok, Sem.run_pure, if_true]
/-- 'm[k] = v' -/
theorem op_mapPut {z' : Operand} {id : Nat} {l : List (κ × ν)} {k : κ} {v : ν} [K : KEnc P kt κ ek okK] [hd : TyD P t (.map kt et)] (ho : o.op = .mapUpdate t x y z' ∨ o.op = .insert t x y z') (hx : Opd G g x (.mp id)) (hy : Opd G g y (.fz (ek k))) (hv' : Opd G g z' (.fz (ev v)))
    (hl : hlook H id = OMap ek ev l) (hnd : (l.map (·.1)).Nodup) (hok : ∀ p ∈ l, okK p.1) (hkk : okK k) : OpS P o g G H nx (.fz (.lit undef)) ((id, OMap ek ev (mput l k v)) :: H) nx :=
  ⟨fun C S m a w hm hg ha KK Q hK => by
    have h1 := hx.rep hg (by rcases ho with ho | ho <;> simp [ho, Op.operands]) ha
    have h2 := (hy.rep hg (by rcases ho with ho | ho <;> simp [ho, Op.operands]) ha).frz
    have h3 := (hv'.rep hg (by rcases ho with ho | ho <;> simp [ho, Op.operands]) ha).frz
    obtain ⟨b, arr, cl, k1, k2, k3, k4, k5, k6, k7⟩ := hm.objs _ _ hl
    obtain ⟨lx, hlx⟩ := K.some k hkk
    generalize hv : a.eval x = vm at h1
    generalize hky : a.eval y = vk at h2
    generalize hvv : a.eval z' = vv at h3
    have hex : ∀ w', (Instr.mapUpdate t vm vk vv).run P w = .ok () w' → (execOp a.eval o).run P w = .ok .skip w' := fun w' h => by
      rcases ho with ho | ho <;> simp only [execOp, ho, hv, hky, hvv, Sem.run_bind, h, Result.andThen_ok, Sem.run_pure]
    have h2v := h2.val (K.ml k)
    cases h1 with
    | mp _ b2 hb2 =>
      rw [hb2] at k1; cases k1
      have hck := K.keyed.check w false hlx
      have hst := K.keyed.stays w hlx
      rcases map_find (P := P) (kt := kt) k3 k5 hok hkk w with ⟨q1, q2⟩ | ⟨j, e, p, q1, q2, q3, q4, q5⟩
      · obtain ⟨m1, m2⟩ := hm.writeM hl hb2 k2 (arr' := arr.push { key := vk, val := vv, born := cl }) (cl' := cl + 1) (o' := .map ((mput l k v).map fun p => ek p.1) ((mput l k v).map fun p => ev p.2)) trivial (fun w' hle hb => by
          rw [mput_new q2]
          refine ⟨_, _, _, hb2, hb, by simp [k3], by simpa using k4, fun i e f he hf => ?_, fun i e f he hf => ?_, k7.push _ rfl⟩
          · rw [Array.getElem?_push] at he
            by_cases hi : i = arr.size
            · rw [if_pos hi] at he; cases he
              rw [List.map_append, List.getElem?_append_right (by rw [hi, k3]; exact Nat.le_refl _), hi, k3, Nat.sub_self] at hf
              cases hf; exact h2.mono hle.st hle.same
            · rw [if_neg hi] at he
              have : i < arr.size := (Array.getElem?_eq_some_iff.1 he).1
              rw [List.map_append, List.getElem?_append_left (by rw [← k3]; exact this)] at hf
              exact (k5 i e f he hf).mono hle.st hle.same
          · rw [Array.getElem?_push] at he
            by_cases hi : i = arr.size
            · rw [if_pos hi] at he; cases he
              rw [List.map_append, List.getElem?_append_right (by rw [hi, k4]; exact Nat.le_refl _), hi, k4, Nat.sub_self] at hf
              cases hf; exact h3.mono hle.st hle.same
            · rw [if_neg hi] at he
              have : i < arr.size := (Array.getElem?_eq_some_iff.1 he).1
              rw [List.map_append, List.getElem?_append_left (by rw [← k4]; exact this)] at hf
              exact (k6 i e f he hf).mono hle.st hle.same)
        refine wp_skip_op (hex _ ?_) (hK _ _ _ _ m1 m2 (.fz _ _ (.lit _)))
        rw [h2v]
        simp only [Instr.mapUpdate, Sem.run_bind, run_underlying hd.h, MapKept.run_getObj_map k2, hck, q1, MapKept.run_setObj_map _ k2, Result.andThen_ok, Sem.run_pure, setBlock]
      · obtain ⟨m1, m2⟩ := hm.writeM hl hb2 k2 (arr' := arr.modify j fun e => { e with key := vk, val := vv }) (cl' := cl) (o' := .map ((mput l k v).map fun p => ek p.1) ((mput l k v).map fun p => ev p.2)) trivial (fun w' hle hb => by
          rw [← q4, mput_at hnd q3]
          refine ⟨_, _, _, hb2, hb, by simpa using k3, by simpa using k4, fun i e' f he hf => ?_, fun i e' f he hf => ?_, k7.modify j _ fun _ => rfl⟩
          · rw [Array.getElem?_modify] at he
            rw [List.getElem?_map, List.getElem?_set] at hf
            by_cases hi : j = i
            · subst hi
              rw [if_pos rfl, q2] at he
              rw [if_pos rfl, if_pos (List.getElem?_eq_some_iff.1 q3).1] at hf
              cases he; cases hf; rw [q4]; exact h2.mono hle.st hle.same
            · rw [if_neg hi] at he hf
              exact (k5 i e' f he (by rw [List.getElem?_map]; exact hf)).mono hle.st hle.same
          · rw [Array.getElem?_modify] at he
            rw [List.getElem?_map, List.getElem?_set] at hf
            by_cases hi : j = i
            · subst hi
              rw [if_pos rfl, q2] at he
              rw [if_pos rfl, if_pos (List.getElem?_eq_some_iff.1 q3).1] at hf
              cases he; cases hf; exact h3.mono hle.st hle.same
            · rw [if_neg hi] at he hf
              exact (k6 i e' f he (by rw [List.getElem?_map]; exact hf)).mono hle.st hle.same)
        refine wp_skip_op (hex _ ?_) (hK _ _ _ _ m1 m2 (.fz _ _ (.lit _)))
        rw [h2v]
        simp only [Instr.mapUpdate, Sem.run_bind, run_underlying hd.h, MapKept.run_getObj_map k2, hck, q1, q2, q5, Option.map_some, Option.getD_some, hst, MapKept.run_setObj_map _ k2, Result.andThen_ok, Sem.run_pure, setBlock]⟩
end
end
end Go.RT
/- A call that is lent objects and leaves them as they were. -/
namespace Go.RT
open Go
set_option linter.all false
section
variable {P : Program} {o : Oper} {g : Bool} {G : Env} {H : Hp} {nx : Nat}
theorem Lent.agree {L : List Nat} {n : Nat} {H H' Hin : Hp} (h : Lent L n H Hin) (ha : ∀ i, L.contains i = true → hlook H' i = hlook H i) : Lent L n H' Hin :=
  ⟨h.len, h.nodup, h.all, fun i o hi => by
    obtain ⟨h1, h2, h3⟩ := h.get i o hi
    exact ⟨h1, (ha _ (by simp only [List.contains_eq_mem, decide_eq_true_eq, renI, List.getD_eq_getElem?_getD]; rw [List.getElem?_eq_getElem (by rw [h.len]; exact h1)]; exact List.getElem_mem _)).trans h2, h3⟩⟩
theorem callH_same {L : List Nat} {n : Nat} {H Hin : Hp} (h : Lent L n H Hin) (hHo : ∀ x ∈ Hin, x.1 < n) (id : Nat) : hlook (callH L Hin L H) id = hlook H id := by
  have hnd := nodupB_spec h.nodup
  have hmem : ∀ i, i < n → renI L i ∈ L := fun i hi => by simp [renI, h.len, hi]
  unfold callH
  rw [List.append_assoc, hlook_append]
  split
  · rename_i hm
    obtain ⟨x, hx, rfl⟩ := List.mem_map.1 hm
    obtain ⟨y, hy, rfl⟩ := List.mem_map.1 hx
    have hlt := hHo y hy
    simp only [renE]
    rw [hlook_ren h.len hnd hHo y.1 hlt]
    obtain ⟨o2, ho2⟩ := h.all y.1 hlt
    rw [ho2, (h.get y.1 o2 ho2).2.1]; rfl
  · rename_i hm
    rw [hlook_append]
    split
    · rename_i hm2
      exfalso
      obtain ⟨x, hx, rfl⟩ := List.mem_map.1 hm2
      obtain ⟨i, hi, rfl⟩ := List.mem_map.1 hx
      obtain ⟨j, hj, he⟩ := List.getElem_of_mem hi
      have hjn : j < n := by rw [← h.len]; exact hj
      obtain ⟨o2, ho2⟩ := h.all j hjn
      refine hm (List.mem_map.2 ⟨renE L (j, some o2), List.mem_map.2 ⟨(j, some o2), ?_, rfl⟩, ?_⟩)
      · have : ∀ {A : Hp}, hlook A j = some o2 → (j, some o2) ∈ A := fun {A} hA => by
          induction A with
          | nil => cases hA
          | cons a A ih =>
            obtain ⟨k, v⟩ := a
            rw [hlook_cons] at hA
            by_cases hk : k = j
            · rw [if_pos hk] at hA; subst hk; rw [hA]; exact List.mem_cons_self ..
            · rw [if_neg hk] at hA; exact List.mem_cons_of_mem _ (ih hA)
        exact this ho2
      · simp [renE, renI, hj, he]
    · rfl
/-- A CALL THAT READS lent objects and leaves them as they were. -/
theorem op_call_read {f : FuncId} {cf : Operand} {xs : List Operand} {ts : Array TypeId} {fs cs ps args : List PV} {n : Nat} {Hin : Hp} {res : FV} (L : List Nat) (hM : g = true → Meets P f args n Hin (.fz res) Hin n) [hb : FnB P f] (ho : o.op = .call { callee := .value cf, args := xs.toArray, argTypes := ts })
    (hf : Opd G g cf (.clo f fs cs)) (hx : Opds G g xs ps) (hargs : fs ++ ps ++ cs = args.map (renP L)) (hlt : args.all (ltP n) = true) (hL : Lent L n H Hin) (hHo : Hin.all (fun x => Nat.blt x.1 n) = true) : OpL P o g G H L (.fz res) := fun H' nx' hag => by
  have hL' := hL.agree hag
  have hHo' : ∀ x ∈ Hin, x.1 < n := fun x hx => blt_of (List.all_eq_true.1 hHo x hx)
  have h := op_call (P := P) (o := o) (g := g) (G := G) (H := H') (nx := nx') (H' := callH (L ++ List.range' nx' (n - n)) Hin L H') (nx' := nx' + (n - n)) (res' := .fz res) L hM ho hf hx hargs hlt hL' (by simp [Nat.ble_eq]) hHo rfl rfl rfl
  refine ⟨fun C S m a w hm hg ha K Q hK => h.runE C S m a w hm hg ha K Q fun v w' S' m' hm' hle hr => hK v w' S' m' ?_ hle hr⟩
  rw [Nat.sub_self, Nat.add_zero] at hm'
  simp only [List.range'_zero, List.append_nil] at hm'
  exact hm'.reheap2 fun id => (callH_same hL' hHo' id).symm
end
end Go.RT
/- The engine, part 30: a region that draws, order by order. -/
namespace Go.RT
section
variable {P : Program} {ops : Array Oper} {N : Nat} {C : Cx} {Q : Exit → Act → World → Prop} {X : Array Bool} {G : Env} {H : Hp} {nx : Nat}
/-- from any point of a region that draws -/
def AnyN (P : Program) (ops : Array Oper) (N : Nat) (C : Cx) (Q : Exit → Act → World → Prop) (X : Array Bool) (G : Env) (H : Hp) (nx : Nat) : Prop :=
  ∀ (r : Option Nat) fuel a w, (X.toList.filter (!·)).length ≤ fuel → Rel C N G H nx a w → wpAnyIn (FM r) 0 P .any ops Q fuel X a w
def StepN (P : Program) (ops : Array Oper) (N : Nat) (C : Cx) (Q : Exit → Act → World → Prop) (X : Array Bool) (G : Env) (H : Hp) (nx : Nat) (i : Nat) : Prop :=
  ∃ o, ops[i]? = some o ∧ o.guard = none ∧ (match o.dst with | some d => Nat.blt d N | none => true) = true ∧ Nat.blt ((X.setIfInBounds i true).toList.filter (!·)).length (X.toList.filter (!·)).length = true ∧
    ∃ p H1 nx1, OpS P o true G H nx p H1 nx1 ∧ AnyN P ops N C Q (X.setIfInBounds i true) (gput G o.dst p) H1 nx1
theorem AnyN.nil (hr : Region.ready .any ops X = []) (h : Next C N G H nx (Q .normal)) : AnyN P ops N C Q X G H nx := fun _ fuel a w _ hR => by
  cases fuel with
  | zero => exact ⟨hr, h a w hR⟩
  | succ fuel => exact ⟨fun _ => h a w hR, fun i hi => by rw [hr] at hi; cases hi⟩
theorem AnyN.step {L : List Nat} (hr : Region.ready .any ops X = L) (hne : L ≠ []) (h : ∀ i ∈ L, StepN P ops N C Q X G H nx i) : AnyN P ops N C Q X G H nx := fun r fuel a w hf hR => by
  cases fuel with
  | zero =>
    exfalso
    cases L with
    | nil => exact hne rfl
    | cons i L =>
      obtain ⟨o, _, _, _, h4, _⟩ := h i (by simp)
      have := Nat.le_of_ble_eq_true h4
      omega
  | succ fuel =>
    refine ⟨fun e => absurd (hr.symm.trans e) hne, fun i hi => ?_⟩
    obtain ⟨o, h1, h2, h3, h4, p, H1, nx1, h5, h6⟩ := h i (by rw [← hr]; exact hi)
    have h4' := Nat.le_of_ble_eq_true h4
    obtain ⟨S, m, hm, hsl⟩ := hR.mem
    unfold wpOpIn
    simp only [h1]
    rw [if_pos (by simp [Region.wanted, h2])]
    refine h5.run C S m a w hm rfl (fun t q _ hq => hsl t q hq) _ _ fun v w' S' m' hm' hle hv => ?_
    refine h6 r fuel _ _ (by omega) ⟨by rw [put_defers]; exact hR.defers, by rw [put_size]; exact hR.size, S', m', hm', fun t q hq => ?_⟩
    rw [look_gput] at hq
    by_cases hd : o.dst = some t
    · rw [if_pos hd] at hq; cases hq
      rw [hd]
      have hlt : t < N := by rw [hd] at h3; exact Nat.le_of_ble_eq_true h3
      exact ⟨v, put_self (by rw [hR.size]; exact hlt), hv⟩
    · rw [if_neg hd] at hq
      obtain ⟨u, hu, hr2⟩ := hsl t q hq
      exact ⟨u, (put_at hd).trans hu, hr2.mono hle⟩
theorem StepN.mk {i : Nat} {o : Oper} {p : PV} {H1 : Hp} {nx1 : Nat} (h1 : ops[i]? = some o) (h5 : OpS P o true G H nx p H1 nx1) (h2 : o.guard = none) (h3 : (match o.dst with | some d => Nat.blt d N | none => true) = true) (h4 : Nat.blt ((X.setIfInBounds i true).toList.filter (!·)).length (X.toList.filter (!·)).length = true)
    (h6 : AnyN P ops N C Q (X.setIfInBounds i true) (gput G o.dst p) H1 nx1) : StepN P ops N C Q X G H nx i := ⟨o, h1, h2, h3, h4, p, H1, nx1, h5, h6⟩
theorem AnyN.one (i : Nat) (hr : Region.ready .any ops X = [i]) (h : StepN P ops N C Q X G H nx i) : AnyN P ops N C Q X G H nx := .step hr (by simp) fun j hj => by simp at hj; subst hj; exact h
theorem AnyN.two (i j : Nat) (hr : Region.ready .any ops X = [i, j]) (h : StepN P ops N C Q X G H nx i) (h2 : StepN P ops N C Q X G H nx j) : AnyN P ops N C Q X G H nx := .step hr (by simp) fun k hk => by
  simp at hk; rcases hk with rfl | rfl
  · exact h
  · exact h2
theorem draw_tree {r : Option Nat} {id : Nat} {l : List Oper} (hm : P.follows .mixedOrders = true) (h : AnyN P l.toArray N C Q (Array.replicate l.toArray.size false) G H nx) : Next C N G H nx ((Code.region id l.toArray true).wpM r P Q) := by
  intro a w hR
  obtain ⟨S, m, hmem, hslots⟩ := hR.mem
  have hle : Le S m w S m { w with drawn := w.drawn + 1 } := ⟨fun _ h => h, fun _ _ => rfl, fun _ _ h => h, fun _ _ h => h⟩
  exact wpIn_region_any hm (h _ _ _ _ (by simp) ⟨hR.defers, hR.size, S, m, hmem.drew, fun t q hq => (hslots t q hq).mono hle⟩)
theorem draw_tree2 {r : Option Nat} {id : Nat} {l : List Oper} (G1 : Env) (H1 : Hp) (nx1 : Nat) (hm : P.follows .mixedOrders = true) (h : Next C N G1 H1 nx1 (Q .normal) → AnyN P l.toArray N C Q (Array.replicate l.toArray.size false) G H nx) (hK : Next C N G1 H1 nx1 (Q .normal)) : Next C N G H nx ((Code.region id l.toArray true).wpM r P Q) := draw_tree hm (h hK)
end
end Go.RT
/- The engine, part 31: rows of slices that their cells own. -/
namespace Go.RT
def ownL (sz : Nat) (irs : List (List (List FV))) : List (List PV) := irs.map fun r => [PV.own sz r]
def fzL (sz : Nat) (irs : List (List (List FV))) : List (List FV) := irs.map fun r => [FV.vals sz r]
theorem renO_own (L : List Nat) (sz : Nat) (irs : List (List (List FV))) : renO L (.refs 1 (ownL sz irs)) = .refs 1 (ownL sz irs) := by
  simp only [renO, ownL, List.map_map]
  congr 1
theorem ltO_own (n sz : Nat) (irs : List (List (List FV))) : ltO n (.refs 1 (ownL sz irs)) := fun r hr => by
  obtain ⟨r0, _, rfl⟩ := List.mem_map.1 hr; rfl
theorem ent_own {L F : List Nat} {H : Hp} {id sz : Nat} {irs : List (List (List FV))} (h1 : Nat.blt id L.length = true) (h2 : F.contains (renI L id) = false) (h3 : hlook H (renI L id) = some (.refs 1 (ownL sz irs))) : Nat.blt id L.length = true ∧ F.contains (renI L id) = false ∧ EntO L F H (renI L id) (.refs 1 (ownL sz irs)) :=
  ent_same h1 h2 (by rw [renO_own]; exact h3) (ltO_own _ _ _)
theorem ownL_set (sz : Nat) (irs : List (List (List FV))) (i : Nat) (r : List (List FV)) : (ownL sz irs).set i [PV.own sz r] = ownL sz (irs.set i r) := List.map_set.symm
theorem ownL_get {sz : Nat} {irs : List (List (List FV))} {i : Nat} {r : List (List FV)} (h : irs[i]? = some r) : (ownL sz irs)[i]? = some [PV.own sz r] := by unfold ownL; rw [List.getElem?_map, h]; rfl
theorem ownL_rep (sz n : Nat) : List.replicate n [PV.own sz []] = ownL sz (List.replicate n []) := by unfold ownL; rw [List.map_replicate]
theorem fzL_get {sz : Nat} {irs : List (List (List FV))} {i : Nat} {r : List (List FV)} (h : irs[i]? = some r) : (fzL sz irs)[i]? = some [FV.vals sz r] := by unfold fzL; rw [List.getElem?_map, h]; rfl
theorem set_get {α : Type} (l : List α) (i : Nat) (x : α) (h : i < l.length) : (l.set i x)[i]? = some x := by rw [List.getElem?_set]; simp [h]
theorem ownL_len (sz : Nat) (irs : List (List (List FV))) : (ownL sz irs).length = irs.length := by simp [ownL]
end Go.RT
namespace Go.RT
theorem own_back {sz : Nat} {irs : List (List (List FV))} {v : Nat} {x y : List PV} {r : List (List FV)} : (((ownL sz irs).set v x).set v y).set v [PV.own sz r] = ownL sz (irs.set v r) := by rw [List.set_set, List.set_set, ownL_set]
theorem fzL_len (sz : Nat) (irs : List (List (List FV))) : (fzL sz irs).length = irs.length := by simp [fzL]
theorem take_all0 {α : Type} {l : List α} {k : Nat} (h : l.length = k) : (l.drop 0).take k = l := by subst h; simp
end Go.RT
/- The engine, part 32: a frozen slice clipped: 's[:len(s):len(s)]'. -/
namespace Go.RT
section
variable {P : Program} {o : Oper} {g : Bool} {G : Env} {x : Operand} {t : TypeId}
end
end Go.RT
/- The engine, part 33: a region that draws, where only the order of its effects is gone through. -/
namespace Go.RT
section
variable {P : Program} {ops : Array Oper} {N : Nat} {C : Cx} {Q : Exit → Act → World → Prop}
/-- what is asked of the region: no guards; slots written once; who reads a slot waits for it; edges lead back -/
def yOK (ops : Array Oper) (N : Nat) : Bool :=
  (List.range ops.size).all fun i => match ops[i]? with
    | none => true
    | some o => o.guard.isNone && (match o.dst with | some d => decide (d < N) | none => true) && (o.after.all fun e => !Region.binds .any e || decide (e.on < i)) &&
      (List.range ops.size).all fun j => match ops[j]? with
        | none => true
        | some oj => match oj.dst with
          | none => true
          | some d => (!decide (o.dst = some d) || decide (j = i)) && (!(opTmps o).contains d || o.after.any fun e => Region.binds .any e && decide (e.on = j))
structure YOk (ops : Array Oper) (N : Nat) : Prop where
  grd : ∀ (i : Nat) (o : Oper), ops[i]? = some o → o.guard = none
  dst : ∀ (i : Nat) (o : Oper) (d : Tmp), ops[i]? = some o → o.dst = some d → d < N
  back : ∀ (i : Nat) (o : Oper) (e : Edge), ops[i]? = some o → e ∈ o.after → Region.binds .any e = true → e.on < i
  once : ∀ (i j : Nat) (d : Tmp), dstOf ops i = some d → dstOf ops j = some d → i = j
  read : ∀ (i j : Nat) (o : Oper) (d : Tmp), ops[i]? = some o → dstOf ops j = some d → d ∈ opTmps o → ∃ e ∈ o.after, Region.binds .any e = true ∧ e.on = j
theorem yOK_spec (h : yOK ops N = true) : YOk ops N := by
  have hj : ∀ j o, ops[j]? = some o → _ := fun j o ho => by
    have := List.all_eq_true.1 h j (List.mem_range.2 (Array.getElem?_eq_some_iff.1 ho).1)
    rw [ho] at this
    exact this
  simp only [Bool.and_eq_true, Array.all_eq_true_iff_forall_mem, Bool.or_eq_true, Bool.not_eq_true', decide_eq_true_eq, decide_eq_false_iff_not, List.all_eq_true, List.mem_range] at hj
  have hd : ∀ {j : Nat} {d : Tmp}, dstOf ops j = some d → ∃ oj, ops[j]? = some oj ∧ oj.dst = some d ∧ j < ops.size := fun {j d} h => by
    unfold dstOf at h
    obtain ⟨oj, h1, h2⟩ := Option.bind_eq_some_iff.1 h
    exact ⟨oj, h1, h2, (Array.getElem?_eq_some_iff.1 h1).1⟩
  refine ⟨fun j o ho => ?_, fun j o d ho hd => ?_, fun j o e ho he hb => ?_, fun i j d h1 h2 => ?_, fun i j o d ho h1 h2 => ?_⟩
  · exact Option.isNone_iff_eq_none.1 (hj j o ho).1.1.1
  · have := (hj j o ho).1.1.2
    rw [hd] at this
    simpa using this
  · rcases (hj j o ho).1.2 e he with h | h
    · rw [hb] at h; cases h
    · exact h
  · obtain ⟨oi, a1, a2, a3⟩ := hd h1
    obtain ⟨oj, b1, b2, b3⟩ := hd h2
    have := (hj i oi a1).2 j b3
    rw [b1] at this
    simp only [b2, Bool.and_eq_true, Bool.or_eq_true, Bool.not_eq_true', decide_eq_false_iff_not, decide_eq_true_eq] at this
    rcases this.1 with h | h
    · exact absurd a2 h
    · exact h.symm
  · obtain ⟨oj, b1, b2, b3⟩ := hd h1
    have := (hj i o ho).2 j b3
    rw [b1] at this
    simp only [b2, Bool.and_eq_true, Bool.or_eq_true, Bool.not_eq_true', decide_eq_false_iff_not, decide_eq_true_eq] at this
    rcases this.2 with h | h
    · exact absurd h2 (by simpa using h)
    · rw [Array.any_eq_true'] at h
      obtain ⟨e, he, hb⟩ := h
      simp only [Bool.and_eq_true, decide_eq_true_eq] at hb
      exact ⟨e, he, hb⟩
/-- a pure operation that may be done at any time from now on -/
def Virt (P : Program) (ops : Array Oper) (Y : Array Bool) (G : Env) (i : Nat) : Prop :=
  ∃ o p, ops[i]? = some o ∧ (∀ H nx, OpS P o true G H nx p H nx) ∧ (∀ d, o.dst = some d → look G d = some p) ∧ ∀ t ∈ opTmps o, ∀ j, dstOf ops j = some t → Y.getD j false = true
/-- the operations Y are done, or can be done at any time -/
def AnyY (P : Program) (ops : Array Oper) (N : Nat) (C : Cx) (Q : Exit → Act → World → Prop) (Y : Array Bool) (G : Env) (H : Hp) (nx : Nat) : Prop :=
  ∀ (r : Option Nat) fuel X a w, X.size = ops.size → (∀ i, X.getD i false = true → Y.getD i false = true) → (∀ i, Y.getD i false = true → X.getD i false = false → Virt P ops Y G i) → (X.toList.filter (!·)).length ≤ fuel → a.defers = C.df → a.tmps.size = N →
    (∃ S m, Mem C H nx S m w ∧ ∀ t q, look G t = some q → (∀ i, Y.getD i false = true → X.getD i false = false → dstOf ops i ≠ some t) → RepAt w S m a t q) → wpAnyIn (FM r) 0 P .any ops Q fuel X a w
theorem virt_more {Y : Array Bool} {G : Env} {i j : Nat} {d : Option Tmp} {p : PV} (hj : j < Y.size) (hd : dstOf ops j = d) (hY : Y.getD j false = false) (hG : ∀ t, d = some t → look G t = none) (h : Virt P ops Y G i) : Virt P ops (Y.setIfInBounds j true) (gput G d p) i := by
  obtain ⟨o, q, h1, h2, h3, h4⟩ := h
  have hlk : ∀ t ∈ opTmps o, look (gput G d p) t = look G t := fun t ht => by
    rw [look_gput, if_neg]
    intro e
    have := h4 t ht j (hd.trans e)
    rw [hY] at this; cases this
  refine ⟨o, q, h1, fun H nx => ⟨fun C S m a w hm hg hr => (h2 H nx).runE C S m a w hm hg fun t q ht hq => hr t q ht (by rw [hlk t ht]; exact hq)⟩, fun t ht => ?_, fun t ht k hk => ?_⟩
  · rw [look_gput]
    by_cases e : d = some t
    · have := hG t e
      rw [h3 t ht] at this; cases this
    · rw [if_neg e]; exact h3 t ht
  · exact (set_iff hj).2 (.inr (h4 t ht k hk))
def StepY (P : Program) (ops : Array Oper) (N : Nat) (C : Cx) (Q : Exit → Act → World → Prop) (Y : Array Bool) (G : Env) (H : Hp) (nx : Nat) (j : Nat) : Prop :=
  ∃ o p H1 nx1, ops[j]? = some o ∧ OpS P o true G H nx p H1 nx1 ∧ (∀ t, o.dst = some t → look G t = none) ∧ AnyY P ops N C Q (Y.setIfInBounds j true) (gput G o.dst p) H1 nx1
theorem filt_set : ∀ (l : List Bool) (i : Nat) (h : i < l.length), l[i] = false → ((l.set i true).filter (!·)).length + 1 ≤ (l.filter (!·)).length := by
  intro l
  induction l with
  | nil => intro i h; simp at h
  | cons b l ih =>
    intro i h hb
    cases i with
    | zero => simp at hb; subst hb; simp
    | succ i =>
      simp only [List.set_cons_succ, List.filter_cons]
      have := ih i (by simpa using h) (by simpa using hb)
      cases b <;> simp <;> omega
theorem some_ready (hgd : YOk ops N) {X : Array Bool} (hX : X.size = ops.size) (hr : Region.ready .any ops X = []) : ∀ i, i < ops.size → X.getD i false = true := by
  intro i
  induction i using Nat.strongRecOn with
  | _ i ih =>
    intro hi
    cases hx : X.getD i false with
    | true => rfl
    | false =>
      have : i ∈ Region.ready .any ops X := mem_ready.2 ⟨by
        have : i < X.size := by omega
        simpa [Array.getD, this] using hx, ops[i], by simp [hi], fun e he hb => by
        have := hgd.back i ops[i] e (by simp [hi]) he hb
        exact ih e.on this (by omega)⟩
      rw [hr] at this; cases this
theorem AnyY.step {Y : Array Bool} {G : Env} {H : Hp} {nx : Nat} {L : List Nat} (hok : yOK ops N = true) (hYs : Y.size = ops.size) (hr : Region.ready .any ops Y = L) (h0 : L = [] → Next C N G H nx (Q .normal)) (h : ∀ j ∈ L, StepY P ops N C Q Y G H nx j) : AnyY P ops N C Q Y G H nx := by
  have hgd := yOK_spec hok
  intro r fuel
  induction fuel with
  | zero =>
    intro X a w hX hXY hV hf h1 h2 ⟨S, m, hm, hsl⟩
    have hall : ∀ i, i < ops.size → X.getD i false = true := fun i hi => by
      have hi' : i < X.toList.length := by simpa [hX] using hi
      cases hx : X.getD i false with
      | true => rfl
      | false =>
        have hxi : X.toList[i] = false := by
          have : i < X.size := by omega
          simpa [Array.getD, this] using hx
        have := filt_set X.toList i hi' hxi
        omega
    have hrX : Region.ready .any ops X = [] := List.eq_nil_iff_forall_not_mem.2 fun i hi => by
      obtain ⟨g1, o, g2, _⟩ := mem_ready.1 hi
      have hin := (Array.getElem?_eq_some_iff.1 g2).1
      have := hall i hin
      have hi2 : i < X.size := by omega
      simp [Array.getD, hi2] at g1 this
      rw [this] at g1; cases g1
    have hL : L = [] := by
      rw [← hr]
      exact List.eq_nil_iff_forall_not_mem.2 fun i hi => by
        obtain ⟨g1, o, g2, _⟩ := mem_ready.1 hi
        have hin := (Array.getElem?_eq_some_iff.1 g2).1
        have := hXY i (hall i hin)
        have hi2 : i < Y.size := by omega
        simp [Array.getD, hi2] at g1 this
        rw [this] at g1; cases g1
    refine ⟨hrX, h0 hL a w ⟨h1, h2, S, m, hm, fun t q hq => hsl t q hq fun i hi hx => ?_⟩⟩
    intro hd
    have hin : i < ops.size := by
      unfold dstOf at hd
      obtain ⟨oj, g1, _⟩ := Option.bind_eq_some_iff.1 hd
      exact (Array.getElem?_eq_some_iff.1 g1).1
    rw [hall i hin] at hx; cases hx
  | succ fuel ih =>
    intro X a w hX hXY hV hf h1 h2 ⟨S, m, hm, hsl⟩
    refine ⟨fun hrX => ?_, fun i hi => ?_⟩
    · have hall := some_ready hgd hX hrX
      have hL : L = [] := by
        rw [← hr]
        exact List.eq_nil_iff_forall_not_mem.2 fun i hi => by
          obtain ⟨g1, o, g2, _⟩ := mem_ready.1 hi
          have hin := (Array.getElem?_eq_some_iff.1 g2).1
          have := hXY i (hall i hin)
          have hi2 : i < Y.size := by omega
          simp [Array.getD, hi2] at g1 this
          rw [this] at g1; cases g1
      refine h0 hL a w ⟨h1, h2, S, m, hm, fun t q hq => hsl t q hq fun i hi hx => ?_⟩
      intro hd
      have hin : i < ops.size := by
        unfold dstOf at hd
        obtain ⟨oj, g1, _⟩ := Option.bind_eq_some_iff.1 hd
        exact (Array.getElem?_eq_some_iff.1 g1).1
      rw [hall i hin] at hx; cases hx
    · obtain ⟨hn0, o, ho, hrd⟩ := mem_ready.1 hi
      have hin : i < ops.size := (Array.getElem?_eq_some_iff.1 ho).1
      have hiX : i < X.size := by omega
      have hx : X.getD i false = false := by simpa [Array.getD, hiX] using hn0
      have hset := fun j => set_iff (X := X) (i := i) (j := j) hiX
      have hdi : dstOf ops i = o.dst := by unfold dstOf; rw [ho]; rfl
      have hfu : ((X.setIfInBounds i true).toList.filter (!·)).length ≤ fuel := by
        rw [show (X.setIfInBounds i true).toList = X.toList.set i true by simp]
        have := filt_set X.toList i (by simpa using hiX) (by simpa [Array.getD, hiX] using hx)
        omega
      have hopd : ∀ t q, t ∈ opTmps o → look G t = some q → RepAt w S m a t q := fun t q ht hq => hsl t q hq fun j hj hxj hd => by
        obtain ⟨e, he, hb, hon⟩ := hgd.read i j o t ho hd ht
        have := hrd e he hb
        rw [hon, hxj] at this; cases this
      unfold wpOpIn
      simp only [ho]
      rw [if_pos (by simp [Region.wanted, hgd.grd i o ho])]
      by_cases hY : Y.getD i false = true
      · obtain ⟨o', p, g1, g2, g3, g4⟩ := hV i hY hx
        rw [ho] at g1; cases g1
        refine (g2 H nx).run C S m a w hm rfl hopd _ _ fun v w' S' m' hm' hle hv => ?_
        refine ih (X.setIfInBounds i true) (a.put o.dst v) w' (by rw [setSize]; exact hX) (fun j hj => ?_) (fun j hj hxj => hV j hj ?_) hfu (by rw [put_defers]; exact h1) (by rw [put_size]; exact h2) ⟨S', m', hm', fun t q hq hn => ?_⟩
        · rcases (hset j).1 hj with rfl | hj
          · exact hY
          · exact hXY j hj
        · cases hb : X.getD j false with
          | false => rfl
          | true => rw [(hset j).2 (.inr hb)] at hxj; cases hxj
        · by_cases hd : o.dst = some t
          · have := g3 t hd
            rw [hq] at this; cases this
            rw [hd]
            exact ⟨v, put_self (by rw [h2]; exact hgd.dst i o t ho hd), hv⟩
          · obtain ⟨u, hu, hr2⟩ := hsl t q hq fun j hj hxj hdj => by
              by_cases hji : j = i
              · subst hji; exact hd (hdi.symm.trans hdj)
              · refine hn j hj ?_ hdj
                cases hb : (X.setIfInBounds i true).getD j false with
                | false => rfl
                | true => rcases (hset j).1 hb with e | e
                          · exact absurd e hji
                          · rw [e] at hxj; cases hxj
            exact ⟨u, (put_at hd).trans hu, hr2.mono hle⟩
      · have hYf : Y.getD i false = false := by simpa using hY
        have hiL : i ∈ L := by
          rw [← hr]
          refine mem_ready.2 ⟨?_, o, ho, fun e he hb => hXY _ (hrd e he hb)⟩
          have : i < Y.size := by omega
          simpa [Array.getD, this] using hYf
        obtain ⟨o', p, H1, nx1, g1, g2, g3, g4⟩ := h i hiL
        rw [ho] at g1; cases g1
        refine g2.run C S m a w hm rfl hopd _ _ fun v w' S' m' hm' hle hv => ?_
        have hsetY := fun j => set_iff (X := Y) (i := i) (j := j) (by omega)
        refine g4 r fuel (X.setIfInBounds i true) (a.put o.dst v) w' (by rw [setSize]; exact hX) (fun j hj => ?_) (fun j hj hxj => ?_) hfu (by rw [put_defers]; exact h1) (by rw [put_size]; exact h2) ⟨S', m', hm', fun t q hq hn => ?_⟩
        · rcases (hset j).1 hj with rfl | hj
          · exact (hsetY j).2 (.inl rfl)
          · exact (hsetY j).2 (.inr (hXY j hj))
        · have hxf : X.getD j false = false := by
            cases hb : X.getD j false with
            | false => rfl
            | true => rw [(hset j).2 (.inr hb)] at hxj; cases hxj
          rcases (hsetY j).1 hj with rfl | hj
          · rw [(hset j).2 (.inl rfl)] at hxj; cases hxj
          · exact virt_more (by omega) hdi hYf g3 (hV j hj hxf)
        · rw [look_gput] at hq
          by_cases hd : o.dst = some t
          · rw [if_pos hd] at hq; cases hq
            rw [hd]
            exact ⟨v, put_self (by rw [h2]; exact hgd.dst i o t ho hd), hv⟩
          · rw [if_neg hd] at hq
            obtain ⟨u, hu, hr2⟩ := hsl t q hq fun j hj hxj hdj => by
              by_cases hji : j = i
              · subst hji; exact hd (hdi.symm.trans hdj)
              · refine hn j ((hsetY j).2 (.inr hj)) ?_ hdj
                cases hb : (X.setIfInBounds i true).getD j false with
                | false => rfl
                | true => rcases (hset j).1 hb with e | e
                          · exact absurd e hji
                          · rw [e] at hxj; cases hxj
            exact ⟨u, (put_at hd).trans hu, hr2.mono hle⟩
theorem StepY.mk {Y : Array Bool} {G : Env} {H : Hp} {nx j : Nat} {o : Oper} {p : PV} {H1 : Hp} {nx1 : Nat} (h1 : ops[j]? = some o) (h2 : OpS P o true G H nx p H1 nx1) (h3 : ∀ t, o.dst = some t → look G t = none) (h4 : AnyY P ops N C Q (Y.setIfInBounds j true) (gput G o.dst p) H1 nx1) : StepY P ops N C Q Y G H nx j := ⟨o, p, H1, nx1, h1, h2, h3, h4⟩
theorem AnyY.nil {Y : Array Bool} {G : Env} {H : Hp} {nx : Nat} (hok : yOK ops N = true) (hYs : Y.size = ops.size) (hr : Region.ready .any ops Y = []) (h0 : Next C N G H nx (Q .normal)) : AnyY P ops N C Q Y G H nx := .step hok hYs hr (fun _ => h0) fun j hj => by cases hj
theorem AnyY.one {Y : Array Bool} {G : Env} {H : Hp} {nx : Nat} (i : Nat) (hok : yOK ops N = true) (hYs : Y.size = ops.size) (hr : Region.ready .any ops Y = [i]) (h : StepY P ops N C Q Y G H nx i) : AnyY P ops N C Q Y G H nx := .step hok hYs hr (fun e => by cases e) fun j hj => by simp at hj; subst hj; exact h
theorem AnyY.two {Y : Array Bool} {G : Env} {H : Hp} {nx : Nat} (i j : Nat) (hok : yOK ops N = true) (hYs : Y.size = ops.size) (hr : Region.ready .any ops Y = [i, j]) (h : StepY P ops N C Q Y G H nx i) (h2 : StepY P ops N C Q Y G H nx j) : AnyY P ops N C Q Y G H nx := .step hok hYs hr (fun e => by cases e) fun k hk => by
  simp at hk; rcases hk with rfl | rfl
  · exact h
  · exact h2
theorem AnyY.three {Y : Array Bool} {G : Env} {H : Hp} {nx : Nat} (i j k : Nat) (hok : yOK ops N = true) (hYs : Y.size = ops.size) (hr : Region.ready .any ops Y = [i, j, k]) (h : StepY P ops N C Q Y G H nx i) (h2 : StepY P ops N C Q Y G H nx j) (h3 : StepY P ops N C Q Y G H nx k) : AnyY P ops N C Q Y G H nx := .step hok hYs hr (fun e => by cases e) fun l hl => by
  simp at hl; rcases hl with rfl | rfl | rfl
  · exact h
  · exact h2
  · exact h3
theorem AnyY.toRefs {Y : Array Bool} {G : Env} {H : Hp} {nx : Nat} (id : Nat) {sz : Nat} {rows : List (List FV)} {rows' : List (List PV)} (hl : hlook H id = some (.flat sz rows)) (hr : (rows.map fun r => r.map PV.fz) = rows') (h : AnyY P ops N C Q Y G ((id, some (.refs sz rows')) :: H) nx) : AnyY P ops N C Q Y G H nx := by
  subst hr
  intro r fuel X a w h1 h2 h3 h4 h5 h6 ⟨S, m, hm, hsl⟩
  exact h r fuel X a w h1 h2 h3 h4 h5 h6 ⟨S, m, hm.retell hl ORep.toRefs (no_own plain_map), hsl⟩
end
end Go.RT
/- Short names of rules. -/
namespace Go.RT
theorem oT {G : Env} {g : Bool} {t : Tmp} {p : PV} (h : look G t = some p) : Opd G g (.tmp t) p := .tmp t p h
theorem oO {G : Env} {g : Bool} {t : Tmp} {p : PV} {g' : Bool} (h : look G t = some (.opt g' p)) (h2 : g = true → g' = true) : Opd G g (.tmp t) p := .topt t p g' h h2
theorem oC {G : Env} {g : Bool} {v : Value} : Opd G g (.const v) (.fz (.lit v)) := .const v
theorem oS {G : Env} {g : Bool} {x : Operand} {xs : List Operand} {p : PV} {ps : List PV} (h : Opd G g x p) (k : Opds G g xs ps) : Opds G g (x :: xs) (p :: ps) := .cons x xs p ps h k
theorem rpZ (d : Nat) {P : Program} {ops : Array Oper} {F : List Kd → Env → Hp → Nat → Prop} {o : Oper} {rest : List Oper} {G : Env} {H : Hp} {nx : Nat} {ks : List Kd} {p : PV} (h1 : (o.guard, o.dst) = (none, some d)) (h : ∀ H nx, OpS P o true G H nx p H nx) (tl : Run P ops F rest (gput G (some d) p) H nx (.p :: ks)) : Run P ops F (o :: rest) G H nx ks := .pure (congrArg Prod.fst h1) (congrArg Prod.snd h1) h tl
theorem rgZ (e : Nat) {P : Program} {ops : Array Oper} {F : List Kd → Env → Hp → Nat → Prop} {o : Oper} {rest : List Oper} {G : Env} {H : Hp} {nx : Nat} {ks : List Kd} {p : PV} {j : Nat} {b g : Bool} {d : Tmp} (h1 : (o.guard, o.dst) = (some (j, b), some e)) (hd : dstOf ops j = some d) (hl : Grd G d b g) (h : ∀ H nx, OpS P o g G H nx p H nx) (tl : Run P ops F rest (gput G (some e) (.opt g p)) H nx (.p :: ks)) : Run P ops F (o :: rest) G H nx ks := .pureG (congrArg Prod.fst h1) (congrArg Prod.snd h1) hd hl h tl
theorem rlZ (d : Nat) {P : Program} {ops : Array Oper} {F : List Kd → Env → Hp → Nat → Prop} {o : Oper} {rest : List Oper} {G : Env} {H : Hp} {nx : Nat} {ks : List Kd} {p : PV} {L : List Nat} (h1 : (o.guard, o.dst) = (none, some d)) (h : OpL P o true G H L p) (tl : Run P ops F rest (gput G (some d) p) H nx (.l L :: ks)) : Run P ops F (o :: rest) G H nx ks := .load (congrArg Prod.fst h1) (congrArg Prod.snd h1) h tl
theorem rkZ (e : Nat) {P : Program} {ops : Array Oper} {F : List Kd → Env → Hp → Nat → Prop} {o : Oper} {rest : List Oper} {G : Env} {H : Hp} {nx : Nat} {ks : List Kd} {p : PV} {j : Nat} {b g : Bool} {d : Tmp} {L : List Nat} (h1 : (o.guard, o.dst) = (some (j, b), some e)) (hd : dstOf ops j = some d) (hl : Grd G d b g) (h : OpL P o g G H L p) (tl : Run P ops F rest (gput G (some e) (.opt g p)) H nx (.l L :: ks)) : Run P ops F (o :: rest) G H nx ks := .loadG (congrArg Prod.fst h1) (congrArg Prod.snd h1) hd hl h tl
theorem rmZ (d : Nat) {P : Program} {ops : Array Oper} {F : List Kd → Env → Hp → Nat → Prop} {o : Oper} {rest : List Oper} {G : Env} {H : Hp} {nx : Nat} {ks : List Kd} {p : PV} {t : Tmp} (h1 : (o.guard, o.dst) = (none, some d)) (ho : o.op = .move (.tmp t)) (hl : look G t = some p) (tl : Run P ops F rest (gput G (some d) p) H nx (.p :: ks)) : Run P ops F (o :: rest) G H nx ks := .pure (congrArg Prod.fst h1) (congrArg Prod.snd h1) (op_move ho (.tmp t p hl)) tl
theorem raZ (d : Nat) {P : Program} {ops : Array Oper} {F : List Kd → Env → Hp → Nat → Prop} {o : Oper} {rest : List Oper} {G : Env} {H : Hp} {nx : Nat} {ks : List Kd} {p : PV} {t : Tmp} (h1 : (o.guard, o.dst) = (none, some d)) (ho : o.op = .assign (.tmp t)) (hl : look G t = some p) (tl : Run P ops F rest (gput G (some d) p) H nx (.p :: ks)) : Run P ops F (o :: rest) G H nx ks := .pure (congrArg Prod.fst h1) (congrArg Prod.snd h1) (op_assign ho (.tmp t p hl)) tl
theorem gmZ (e : Nat) {P : Program} {ops : Array Oper} {F : List Kd → Env → Hp → Nat → Prop} {o : Oper} {rest : List Oper} {G : Env} {H : Hp} {nx : Nat} {ks : List Kd} {p : PV} {t : Tmp} {j : Nat} {b g : Bool} {d : Tmp} (h1 : (o.guard, o.dst) = (some (j, b), some e)) (hd : dstOf ops j = some d) (hl : Grd G d b g) (ho : o.op = .move (.tmp t)) (hk : look G t = some p) (tl : Run P ops F rest (gput G (some e) (.opt g p)) H nx (.p :: ks)) : Run P ops F (o :: rest) G H nx ks := .pureG (congrArg Prod.fst h1) (congrArg Prod.snd h1) hd hl (op_move ho (.tmp t p hk)) tl
theorem rnZ {P : Program} {ops : Array Oper} {C : Cx} {N : Nat} {l : List Oper} {K : Act → World → Prop} {G : Env} {H : Hp} {nx : Nat} {ks : List Kd} (h : Next C N G H nx K) : Run P ops (FinR C N l K) [] G H nx ks := .nil (.mk h)
open Go
section
variable {r : Option Nat} {P : Program} {C : Cx} {N : Nat} {G : Env} {H : Hp} {nx : Nat} {Q : Exit → Act → World → Prop} {K : Act → World → Prop}
end
open Go
section
variable {r : Option Nat} {P : Program} {C : Cx} {N : Nat} {G : Env} {H : Hp} {nx : Nat} {Q : Exit → Act → World → Prop} {K : Act → World → Prop}
end
end Go.RT
/- The engine, part 36: four results; the greatest of six numbers. -/
namespace Go.RT
open Go
set_option linter.all false
section
variable {P : Program} {C : Cx} {N : Nat} {G : Env} {H : Hp} {nx : Nat}
theorem rep_tup4 {w : World} {S : Nat → Prop} {m : Ids} {v1 v2 v3 v4 : Value} {f1 f2 f3 f4 : FV} (h1 : Rep w S m v1 (.fz f1)) (h2 : Rep w S m v2 (.fz f2)) (h3 : Rep w S m v3 (.fz f3)) (h4 : Rep w S m v4 (.fz f4)) : Rep w S m (.tuple #[v1, v2, v3, v4]) (.fz (.tup [f1, f2, f3, f4])) := by
  cases h1 with | fz _ _ h1 => cases h2 with | fz _ _ h2 => cases h3 with | fz _ _ h3 => cases h4 with | fz _ _ h4 =>
  refine .fz _ _ (.tup _ _ rfl fun i c f hc hf => ?_)
  match i with
  | 0 => simp at hc hf; subst hc; subst hf; exact h1
  | 1 => simp at hc hf; subst hc; subst hf; exact h2
  | 2 => simp at hc hf; subst hc; subst hf; exact h3
  | 3 => simp at hc hf; subst hc; subst hf; exact h4
  | i + 4 => simp at hf
theorem s_o4 {fn : Func} {f1 f2 f3 f4 : FV} {rv1 rv2 rv3 rv4 : ResultVar} (hC : C.n0 = 0) (hres : fn.results = #[rv1, rv2, rv3, rv4]) (h : RV P G H rv1 f1) (h' : RV P G H rv2 f2) (h'' : RV P G H rv3 f3) (h''' : RV P G H rv4 f4) : Next C N G H nx (Out P fn C (.fz (.tup [f1, f2, f3, f4])) [] 0 .ret) :=
  s_ofin hC fun S m a w hm hsl => by
    obtain ⟨v1, h2, h1⟩ := h.run hm hsl
    obtain ⟨v2, h4, h3⟩ := h'.run hm hsl
    obtain ⟨v3, h6, h5⟩ := h''.run hm hsl
    obtain ⟨v4, h8, h7⟩ := h'''.run hm hsl
    refine ⟨.tuple #[v1, v2, v3, v4], ?_, (rep_tup4 (m := m) (.fz _ _ h2) (.fz _ _ h4) (.fz _ _ h6) (.fz _ _ h8)).frz⟩
    rcases h1 with ⟨r, rfl, e1⟩ | ⟨r, t, ad, rfl, e1, e2⟩ <;> rcases h3 with ⟨r', rfl, e3⟩ | ⟨r', t', ad', rfl, e3, e4⟩ <;> rcases h5 with ⟨r'', rfl, e5⟩ | ⟨r'', t'', ad'', rfl, e5, e6⟩ <;> rcases h7 with ⟨r3, rfl, e7⟩ | ⟨r3, t3, ad3, rfl, e7, e8⟩ <;> simp [results, hres, asAddr, *]
end
section
variable {P : Program} {o : Oper} {g : Bool} {G : Env} {x1 x2 x3 x4 x5 x6 : Operand} {k : IntKind} {a b c d e f : Int}
end
end Go.RT
/- The engine, part 37: results that hand out owned objects out of cells; look-ups in frozen maps. -/
namespace Go.RT
open Go
open Go.ChangeMaps (setBlock)
set_option linter.all false
variable {P : Program} {G : Env} {H : Hp} {nx : Nat} {C : Cx} {N : Nat} {t t' : TypeId} {x y : Operand} {o : Oper} {g : Bool}
/-- a result variable, as it stands -/
inductive RVP (P : Program) (G : Env) (H : Hp) : ResultVar → PV → Prop where
  | tmp (r : Tmp) (p : PV) : look G r = some p → RVP P G H (.tmp r) p
  | cell (r : Tmp) (t : TypeId) (id sz by_ : Nat) (z : Value) (ps : List PV) : TyA P t true → TyN P t sz by_ z → look G r = some (.ptr id sz 0 0) → hlook H id = some (.refs sz [ps]) → RVP P G H (.cell r t) (.agg ps)
theorem RVP.run {rv : ResultVar} {f : PV} {S : Nat → Prop} {m : Ids} {a : Act} {w : World} (h : RVP P G H rv f) (hm : Mem C H nx S m w) (hsl : ∀ t q, look G t = some q → RepAt w S m a t q) :
    ∃ v, Rep w S m v f ∧ ((∃ r, rv = .tmp r ∧ a.tmps[r]?.getD undef = v) ∨ ∃ r t ad, rv = .cell r t ∧ a.tmps[r]?.getD undef = .pointer (some ad) ∧ (loadVar t ad).run P w = .ok v w) := by
  cases h with
  | tmp r f hl =>
    obtain ⟨v, hv, hr⟩ := hsl r _ hl
    exact ⟨v, hr, .inl ⟨r, rfl, by simp [hv]⟩⟩
  | cell r t id sz by_ z ps h1 h2 hl hh =>
    obtain ⟨v, hv, hr⟩ := hsl r _ hl
    cases hr with
    | ptr _ _ _ _ b hb =>
      rcases hm.objs id _ hh with ⟨k1, _⟩ | ⟨b', c, e, k1, hc, k3, k4, k5⟩
      · rw [hb] at k1; cases k1
      · rw [hb] at k1; cases k1
        obtain ⟨us, hul, hcc, hrr⟩ := cells_list (w := w) (b := b) (off := 0) (R := Rep w S m) (fs := ps) fun j f hf => by
          obtain ⟨u, hu, ho1, hp⟩ := k5 0 j ps f rfl hf
          exact ⟨u, own_cell hc (by simpa using hu), ho1, hp⟩
        have hfl : ps.length = sz := k4 ps (by simp)
        have := run_loadn (P := P) (t := t) (w := w) (ad := ⟨b, 0, none⟩) (by rw [hul, hfl]) (fun j u hu => (hcc j u hu).1)
        exact ⟨.agg us.toArray, .agg _ _ (by simpa using hul) (fun j u f hu hf => hrr j u f (by simpa using hu) hf) (fun j u hu => (hcc j u (by simpa using hu)).2), .inr ⟨r, t, _, rfl, by simp [hv], this⟩⟩
theorem tVP {α : Prop} (h : α := by first | exact RVP.tmp _ _ rfl | exact RVP.cell _ _ _ _ _ _ _ inferInstance inferInstance rfl rfl) : α := h
/-- one result, with the objects L handed out and those of F frozen -/
theorem n_outW1 {fn : Func} {rv : ResultVar} {p q : PV} {Hout : Hp} {n' : Nat} (L F : List Nat) (hres : fn.results = #[rv]) (h1 : RVP P G H rv p) (hnd : nodupB ((keysH Hout).map (renI L)) = true) (hk : keeps C L) (hH : EntH L F H Hout) (hFH : ∀ id, F.contains id = true → ∃ o, hlook H id = some o)
    (e1 : EntV L F H p q) (hn : L.length = n') : Next C N G H nx (Out P fn C q Hout n' .ret) := by
  subst hn
  intro a w hr
  obtain ⟨S, m, hm, hsl⟩ := hr.mem
  obtain ⟨v, h2, h3⟩ := h1.run hm hsl
  obtain ⟨k1, k2⟩ := hm.weak hnd hk hH hFH
  refine fun hdf => ⟨hr.defers.trans hdf, v, ?_, v, _, _, rfl, k1, k2 v _ _ h2 e1⟩
  rcases h3 with ⟨r, rfl, e1⟩ | ⟨r, t, ad, rfl, e1, e2⟩ <;> simp [results, hres, asAddr, *]
theorem n_outW2 {fn : Func} {rv1 rv2 : ResultVar} {p1 p2 q1 q2 : PV} {Hout : Hp} {n' : Nat} (L F : List Nat) (hres : fn.results = #[rv1, rv2]) (h1 : RVP P G H rv1 p1) (h2 : RVP P G H rv2 p2) (hnd : nodupB ((keysH Hout).map (renI L)) = true) (hk : keeps C L) (hH : EntH L F H Hout) (hFH : ∀ id, F.contains id = true → ∃ o, hlook H id = some o)
    (e1 : EntV L F H p1 q1) (e2 : EntV L F H p2 q2) (hn : L.length = n') : Next C N G H nx (Out P fn C (.tup [q1, q2]) Hout n' .ret) := by
  subst hn
  intro a w hr
  obtain ⟨S, m, hm, hsl⟩ := hr.mem
  obtain ⟨v1, h3, h4⟩ := h1.run hm hsl
  obtain ⟨v2, h5, h6⟩ := h2.run hm hsl
  obtain ⟨k1, k2⟩ := hm.weak hnd hk hH hFH
  refine fun hdf => ⟨hr.defers.trans hdf, .tuple #[v1, v2], ?_, _, _, _, rfl, k1, rep_ptup2 (k2 v1 _ _ h3 e1) (k2 v2 _ _ h5 e2)⟩
  rcases h4 with ⟨r, rfl, e3⟩ | ⟨r, t, ad, rfl, e3, e4⟩ <;> rcases h6 with ⟨r', rfl, e5⟩ | ⟨r', t', ad', rfl, e5, e6⟩ <;> simp [results, hres, asAddr, *]
section maps
variable {κ ν : Type} [DecidableEq κ] {ek : κ → FV} {ev : ν → FV} {okK : κ → Prop} {kt et : TypeId}
abbrev FMap {κ ν : Type} (ek : κ → FV) (ev : ν → FV) (l : List (κ × ν)) : FV := .mapv (l.map fun p => ek p.1) (l.map fun p => ev p.2)
/-- 'm[k]' of a frozen map, which may be nil -/
theorem op_lookupF {sz by_ : Nat} {z : Value} {l : List (κ × ν)} {k : κ} (d0 : ν) [K : KEnc P kt κ ek okK] [hd : TyD P t (.map kt et)] [hn : TyN P et sz by_ z] (ho : o.op = .lookup t x y false) (hx : Opd G g x (.fz (FMap ek ev l))) (hy : Opd G g y (.fz (ek k)))
    (hh : g = true → (l.map (·.1)).Nodup ∧ (∀ p ∈ l, okK p.1) ∧ okK k) (hz : ∀ w S, FRep w S z (ev d0)) : OpP P o g G (.fz (ev ((mget l k).getD d0))) :=
  .of fun S m a w hg ha => by
    have h1 := (hx.rep hg (by simp [ho, Op.operands]) ha).frz
    have h2 := (hy.rep hg (by simp [ho, Op.operands]) ha).frz.val (K.ml k)
    obtain ⟨hnd, hok, hkk⟩ := hh hg
    obtain ⟨lx, hlx⟩ := K.some k hkk
    generalize hv : a.eval x = v at h1
    generalize hfm : FMap ek ev l = fm at h1
    cases h1 with
    | mapn =>
      have hl : l = [] := by
        simp only [FMap, FV.mapv.injEq] at hfm
        exact List.map_eq_nil_iff.1 hfm.1
      subst hl
      have hck := K.keyed.check w (#[] : Array MapEntry).isEmpty hlx
      rcases map_find (P := P) (kt := kt) (ek := ek) (w := w) (S := S) (l := ([] : List (κ × ν))) (arr := #[]) (by simp) (fun i e f q1 q2 => by simp at q1) hok hkk w with ⟨q1, q2⟩ | ⟨j, e, p, q1, q2, q3, q4, q5⟩
      · refine ⟨z, ?_, .fz _ _ (hz _ _)⟩
        simp only [execOp, ho, hv, h2, Instr.lookup, Sem.run_bind, run_underlying hd.h, hck, q1, run_zero hn, Result.andThen_ok, Sem.run_pure, Bool.false_eq_true, if_false]
      · simp at q2
    | mapv b ks vs arr cl hS k2 k3 k4 k5 k6 =>
      simp only [FMap, FV.mapv.injEq] at hfm
      obtain ⟨rfl, rfl⟩ := hfm
      have hck := K.keyed.check w arr.isEmpty hlx
      rcases map_find (P := P) (kt := kt) k3 k5 hok hkk w with ⟨q1, q2⟩ | ⟨j, e, p, q1, q2, q3, q4, q5⟩
      · refine ⟨z, ?_, .fz _ _ (by rw [mget_none q2]; exact hz _ _)⟩
        simp only [execOp, ho, hv, h2, Instr.lookup, Sem.run_bind, run_underlying hd.h, MapKept.run_getObj_map k2, hck, q1, run_zero hn, Result.andThen_ok, Sem.run_pure, Bool.false_eq_true, if_false]
      · refine ⟨e.val, ?_, .fz _ _ (by rw [← q4, mget_at hnd q3]; exact k6 j e _ q2 (by rw [List.getElem?_map, q3]; rfl))⟩
        simp only [execOp, ho, hv, h2, Instr.lookup, Sem.run_bind, run_underlying hd.h, MapKept.run_getObj_map k2, hck, q1, Result.andThen_ok, Sem.run_pure, Bool.false_eq_true, if_false]
    | _ => cases hfm
end maps
end Go.RT
/- The engine, part 38: literals whose missing slices are read as empty ones. -/
namespace Go.RT
open Go
set_option linter.all false
variable {P : Program} {G : Env} {t : TypeId} {o : Oper} {g : Bool}
/-- the cells of a zero value; a nil slice may be read as an empty one -/
def zOk : List Value → List FV → Prop
  | [], [] => True
  | u :: us, f :: fs => (f = .lit u ∨ ∃ sz, u = .slice none 0 0 ∧ f = .vals sz []) ∧ zOk us fs
  | _, _ => False
theorem zOk.len : ∀ {us : List Value} {fs : List FV}, zOk us fs → us.length = fs.length
  | [], [], _ => rfl
  | _ :: _, _ :: _, h => by simp [zOk.len h.2]
theorem zOk.at : ∀ {us : List Value} {fs : List FV}, zOk us fs → ∀ (i : Nat) (f : FV), fs[i]? = some f → ∃ u, us[i]? = some u ∧ (f = .lit u ∨ ∃ sz, u = .slice none 0 0 ∧ f = .vals sz [])
  | [], [], _, i, f, h => by simp at h
  | u :: us, f' :: fs, h, i, f, hf => by
    cases i with
    | zero => simp at hf; subst hf; exact ⟨u, rfl, h.1⟩
    | succ i => simpa using zOk.at h.2 i f (by simpa using hf)
theorem zOk.rep {z : Value} {zs : List FV} (h : zOk z.cells.toList zs) (h1 : z.cells.toList.all (·.oneCell') = true) (w : World) (S : Nat → Prop) : ARep (FRep w S) z.cells zs := by
  refine ⟨by simpa using h.len, fun i p hp => ?_⟩
  obtain ⟨u, hu, hq⟩ := h.at i p hp
  rw [Array.getElem?_toList] at hu
  refine ⟨u, hu, List.all_eq_true.1 h1 u (Array.mem_toList_iff.2 (Array.mem_of_getElem? hu)), ?_⟩
  rcases hq with rfl | ⟨sz, rfl, rfl⟩
  · exact .lit _
  · exact .nil _ _ _
theorem op_buildZ {places : List (Nat × Nat)} {n by_ : Nat} {z : Value} {cs : List FV} {parts : List (Nat × Operand)} (zs : List FV) [hb : TyB P t places] [hn : TyN P t n by_ z] (ho : o.op = .build t parts.toArray) (h1 : z.cells.toList.all (·.oneCell') = true) (hz : zOk z.cells.toList zs) (hf : FillF places G g parts zs cs) : OpP P o g G (.fz (.agg cs)) :=
  .of fun S m a w hg ha => by
    obtain ⟨fs, e1, e2⟩ := hb.h
    obtain ⟨A, k1, k2, k3⟩ := hf.run hg ha (fun p hp => by simp only [ho, Op.operands, List.mem_toArray]; exact List.mem_map.2 ⟨p, by simpa using hp, rfl⟩) _ (hz.rep h1 w S)
    refine ⟨.agg A, ?_, .fz _ _ (.agg A cs k2 (fun i c f hc hf => ?_) (fun i c hc => ?_))⟩
    · have : (parts.toArray.map fun p => (p.1, a.eval p.2)).toList = parts.map fun p => (p.1, a.eval p.2) := by simp
      simp [execOp, ho, Instr.build, run_zero hn, run_underlying e1, e2, k1]
    · obtain ⟨u, hu, _, hr⟩ := k3 i f hf
      rw [hc] at hu; cases hu; exact hr
    · have hi : i < cs.length := by rw [← k2]; exact (Array.getElem?_eq_some_iff.1 hc).1
      obtain ⟨u, hu, hone, _⟩ := k3 i cs[i] (by simp [hi])
      rw [hc] at hu; cases hu; exact hone
end Go.RT
/- Loops over functions: the record and the marks as owned raw objects; calls of yield; rounds. -/
namespace Go.RT
open Go
set_option linter.all false
def noC : Obj → Bool
  | .cells .. => false
  | _ => true
theorem frz_noC {w : World} {b : Nat} {x : Obj} (h : w.heap[b]? = some x) (hx : noC x = true) {a : Addr} (ha : a.block = b) : w.frozen? a = false := by
  subst ha
  simp only [World.frozen?, h]
  cases x <;> first | rfl | (simp [noC] at hx)
theorem room_noC {w : World} {b n : Nat} {x : Obj} (h : w.heap[b]? = some x) (hx : noC x = true) : ¬ roomIs w b n := fun ⟨c, e, fr, h1, _⟩ => by
  rw [h] at h1; cases h1; simp [noC] at hx
section
variable {C : Cx} {H : Hp} {nx : Nat} {S : Nat → Prop} {m : Ids} {w : World}
theorem Mem.raw (hm : Mem C H nx S m w) {id : Nat} {x : Obj} (hl : hlook H id = some (.raw x)) : ∃ b, m id = some (some b) ∧ w.heap[b]? = some x := hm.objs id _ hl
theorem Mem.rawSet (hm : Mem C H nx S m w) {id b : Nat} {x : Obj} (y : Obj) (hl : hlook H id = some (.raw x)) (hb : m id = some (some b)) (hx : noC x = true) (hy : noC y = true) :
    Mem C ((id, some (.raw y)) :: H) nx S m (w.putObj b y) ∧ Le S m w S m (w.putObj b y) := by
  obtain ⟨hnS, hblt, hown⟩ := hm.blk id _ b hl hb
  have hbx : w.heap[b]? = some x := by
    obtain ⟨b', h1, h2⟩ := hm.raw hl
    rw [hb] at h1; cases h1; exact h2
  have hother : ∀ k, k ≠ b → (w.putObj b y).heap[k]? = w.heap[k]? := fun k hk => World.putObj_heap_other hk
  have hsame : (w.putObj b y).heap[b]? = some y := World.putObj_heap_same hblt
  have hle : Le S m w S m (w.putObj b y) := ⟨fun _ h => h, fun k hk => hother k (fun e => hnS (e ▸ hk)), fun _ _ h => h, fun k n hr => by
    have hk : k ≠ b := fun e => room_noC hbx hx (e ▸ hr)
    obtain ⟨c, e, fr, h1, h2⟩ := hr
    exact ⟨c, e, fr, (hother k hk).trans h1, h2⟩⟩
  have ex : ∀ i o2, hlook ((id, some (.raw y)) :: H) i = some o2 → ∃ o3, hlook H i = some o3 := fun i o2 h => by
    rw [hlook_cons] at h
    by_cases hi : id = i
    · subst hi; exact ⟨_, hl⟩
    · rw [if_neg hi] at h; exact ⟨_, h⟩
  refine ⟨hm.step hle ⟨rfl, Nat.le_refl _⟩ rfl rfl (fun a ha => ?_) (by simp) (fun k h1 h2 => hother k (fun e => ?_)) (fun _ h => .inl h) (fun i o2 h => ?_) (fun i o2 b2 h h2 => ?_) (fun i1 i2 o1 o2 b2 h1 h2 h3 h4 => ?_) (fun k hk => ?_) hm.fresh ?_, hle⟩
  · by_cases e : a.block = b
    · rw [frz_noC hsame hy e, frz_noC hbx hx e]
    · simp only [World.frozen?, hother _ e]
  · subst e
    rcases hown with h | h
    · omega
    · exact h2 h
  · rw [hlook_cons] at h
    by_cases hi : id = i
    · rw [if_pos hi] at h; cases h; subst hi; exact ⟨b, hb, hsame⟩
    · rw [if_neg hi] at h
      exact (hm.objs i o2 h).mono hle fun b2 hb2 => hother b2 (fun e => by subst e; exact hi (hm.inj id i _ _ b2 hl h hb hb2))
  · obtain ⟨o3, h3⟩ := ex i o2 h
    obtain ⟨k1, k2, k3⟩ := hm.blk i o3 b2 h3 h2
    exact ⟨k1, by simpa using k2, k3⟩
  · obtain ⟨_, k1⟩ := ex i1 o1 h1
    obtain ⟨_, k2⟩ := ex i2 o2 h2
    exact hm.inj i1 i2 _ _ b2 k1 k2 h3 h4
  · simpa using hm.stab k hk
  · refine hm.nkeep hle (by simp) (fun id' sz i j isz irows hO => ?_) (fun id' sz i j isz irows b2 c2 e2 u hO k1 k2 k3 => ⟨c2, e2, (hother b2 (fun e => by subst e; rw [hbx] at k2; cases k2; simp [noC] at hx)).trans k2, k3⟩) (fun b' h1 h2 h3 => ⟨hother b' (fun e => h3 _ _ hl (e ▸ hb)), h2, fun id2 o2 ho2 => ?_⟩)
    · by_cases hi : id = id'
      · exact (hO.notPlain (o := .raw y) (by rw [hlook_cons, if_pos hi]) trivial).elim
      · exact hO.of fun o2 h => by rwa [hlook_cons, if_neg hi] at h
    · obtain ⟨o3, ho3⟩ := ex _ _ ho2; exact h3 _ _ ho3
theorem Mem.newRaw (hm : Mem C H nx S m w) (x : Obj) :
    Mem C ((nx, some (.raw x)) :: H) (nx + 1) S (setM m nx (some w.heap.size)) (w.alloc x) ∧ Le S m w S (setM m nx (some w.heap.size)) (w.alloc x) := by
  have hnew : (w.alloc x).heap[w.heap.size]? = some x := heap_alloc_new w _
  have hold : ∀ b, b < w.heap.size → (w.alloc x).heap[b]? = w.heap[b]? := fun b hb => RowKit.Below.heap_alloc w _ b hb
  have hids : ∀ i x, m i = some x → i ≠ nx := fun i x hi => by have := hm.lt hi; omega
  have hle : Le S m w S (setM m nx (some w.heap.size)) (w.alloc x) := by
    refine ⟨fun _ h => h, fun b hb => hold b (hm.stab b hb), fun i x hi => by rw [setM_other (hids i x hi)]; exact hi, fun b n hr => ?_⟩
    obtain ⟨c', e', fr, h1, h2⟩ := hr
    have : b < w.heap.size := (Array.getElem?_eq_some_iff.1 h1).1
    exact ⟨c', e', fr, (hold b this).trans h1, h2⟩
  refine ⟨hm.step hle ⟨rfl, Nat.le_refl _⟩ rfl rfl (fun a ha => ?_) (by simp) (fun b hb _ => hold b (Nat.lt_of_lt_of_le hb hm.size)) (fun b hb => .inl hb) (fun id o' ho' => ?_) (fun id o' b ho' hb => ?_) (fun id id' o' o'' b h1 h2 h3 h4 => ?_) (fun b hb => ?_) (fun i hi => ?_) ?_, hle⟩
  · simp only [World.frozen?, hold _ ha]
  · rw [hlook_cons] at ho'
    by_cases hid : nx = id
    · rw [if_pos hid] at ho'; cases ho'; subst hid
      exact ⟨_, setM_self _ _ _, hnew⟩
    · rw [if_neg hid] at ho'
      exact (hm.objs id o' ho').mono hle fun b hb => hold b (hm.blk id o' b ho' hb).2.1
  · rw [hlook_cons] at ho'
    by_cases hid : nx = id
    · subst hid
      rw [setM_self] at hb; cases hb
      exact ⟨fun h => Nat.lt_irrefl _ (hm.stab _ h), by simp, .inl hm.size⟩
    · rw [if_neg hid] at ho'
      rw [setM_other (fun h => hid h.symm)] at hb
      obtain ⟨h1, h2, h3⟩ := hm.blk id o' b ho' hb
      exact ⟨h1, by simp; omega, h3⟩
  · rw [hlook_cons] at h1 h2
    by_cases ha : nx = id <;> by_cases hb : nx = id'
    · exact ha.symm.trans hb
    · subst ha
      rw [if_neg hb] at h2
      rw [setM_self] at h3; cases h3
      rw [setM_other (fun h => hb h.symm)] at h4
      exact absurd (hm.blk id' o'' _ h2 h4).2.1 (Nat.lt_irrefl _)
    · subst hb
      rw [if_neg ha] at h1
      rw [setM_self] at h4; cases h4
      rw [setM_other (fun h => ha h.symm)] at h3
      exact absurd (hm.blk id o' _ h1 h3).2.1 (Nat.lt_irrefl _)
    · rw [if_neg ha] at h1; rw [if_neg hb] at h2
      rw [setM_other (fun h => ha h.symm)] at h3; rw [setM_other (fun h => hb h.symm)] at h4
      exact hm.inj id id' o' o'' b h1 h2 h3 h4
  · have := hm.stab b hb; simp; omega
  · rw [setM_other (by omega)]; exact hm.fresh i (by omega)
  · have hOE : ∀ id sz i j isz irows, OwnE ((nx, some (.raw x)) :: H) id sz i j isz irows → OwnE H id sz i j isz irows := fun id sz i j isz irows hO => by
      by_cases hid : nx = id
      · exact (hO.notPlain (o := .raw x) (by rw [hlook_cons, if_pos hid]) trivial).elim
      · exact hO.of fun o2 h => by rwa [hlook_cons, if_neg hid] at h
    refine hm.nkeep hle (by simp) hOE (fun id sz i j isz irows b c2 e2 u hO k1 k2 k3 => ⟨c2, e2, (hold b (Array.getElem?_eq_some_iff.1 k2).1).trans k2, k3⟩) (fun b' h1 h2 h3 => ⟨hold b' h1, h2, fun id2 o2 ho2 hc => ?_⟩)
    rw [hlook_cons] at ho2
    by_cases hid : nx = id2
    · subst hid; rw [setM_self] at hc; cases hc; exact Nat.lt_irrefl _ h1
    · rw [if_neg hid] at ho2; rw [setM_other (fun h => hid h.symm)] at hc; exact h3 _ _ ho2 hc
end

/-! ## calls of yield -/
/-- the doer: yield, handed ahead of its arguments -/
def DY (P : Program) (vs : Array Value) (w : World) (R : Ending → World → Prop) : Prop :=
  ∃ l, vs[0]? = some (.func (.yield l) #[] #[]) ∧ YieldAt Fence.wide 0 P l (vs.toList.drop 1).toArray w R
theorem DY.mono {P : Program} (vs : Array Value) (w : World) (R R' : Ending → World → Prop) (h : DY P vs w R) (hr : ∀ e w', R e w' → R' e w') : DY P vs w R' := by
  obtain ⟨l, h1, fn, tmps, assign, body, h2, h3⟩ := h
  exact ⟨l, h1, fn, tmps, assign, body, h2, h3.mono hr⟩
section
variable {P : Program} {o : Oper} {g : Bool} {G : Env} {H : Hp} {nx : Nat}
end
end Go.RT
/- Rounds. -/
namespace Go.RT
open Go
set_option linter.all false
section
variable {P : Program} {C : Cx} {N : Nat} {G : Env} {H : Hp} {nx : Nat} {Q : Exit → Act → World → Prop}
end
end Go.RT
/- A loop over a function: its statement, what follows it, and a function's end with its mark. -/
namespace Go.RT
open Go
set_option linter.all false
/-- C' is C from behind a loop on: the mark D is pending -/
structure After (C C' : Cx) (D : Nat) : Prop where
  df : C'.df = { target := .collected D, args := #[] } :: C.df
  n0 : C'.n0 = C.n0
  m0 : C'.m0 = C.m0
  own : ∀ b, C'.own0 b ↔ (C.w0.heap.size ≤ b ∨ C.own0 b) ∧ b ≠ D
  base : ∃ H nx m, Mem C H nx C'.S0 m C'.w0
  at_ : C'.w0.heap[D]? = some (.deferred (some []))
  notS : ¬ C'.S0 D
  new : C.w0.heap.size ≤ D
section
variable {P : Program} {C C' : Cx} {D N : Nat} {G : Env} {H : Hp} {nx : Nat} {S : Nat → Prop} {m : Ids} {w : World} {Q : Exit → Act → World → Prop}
theorem After.lt (h : After C C' D) : D < C'.w0.heap.size := (Array.getElem?_eq_some_iff.1 h.at_).1
theorem After.still (h : After C C' D) (hm : Mem C' H nx S m w) : w.heap[D]? = some (.deferred (some [])) ∧ ¬ S D := by
  have hno : ¬ C'.own0 D := fun e => ((h.own D).1 e).2 rfl
  refine ⟨(hm.frame D h.lt hno).trans h.at_, fun hs => ?_⟩
  rcases hm.sub D hs with k | k | k
  · exact h.notS k
  · exact hno k
  · have := h.lt; omega
/-- seen from the beginning, with the mark's block taken -/
theorem After.back (h : After C C' D) (hm : Mem C' H nx S m w) (y : Obj) (hy : noC y = true) : Mem C H nx S m (w.putObj D y) ∧ Le S m w S m (w.putObj D y) := by
  obtain ⟨H0, nx0, m0', hb⟩ := h.base
  obtain ⟨hD, hnS⟩ := h.still hm
  have hDlt : D < w.heap.size := Nat.lt_of_lt_of_le h.lt hm.size
  have hother : ∀ k, k ≠ D → (w.putObj D y).heap[k]? = w.heap[k]? := fun k hk => World.putObj_heap_other hk
  have hsame : (w.putObj D y).heap[D]? = some y := World.putObj_heap_same hDlt
  have hx : noC (.deferred (some [])) = true := rfl
  have hle : Le S m w S m (w.putObj D y) := ⟨fun _ h => h, fun k hk => hother k (fun e => hnS (e ▸ hk)), fun _ _ h => h, fun k n hr => by
    have hk : k ≠ D := fun e => room_noC hD hx (e ▸ hr)
    obtain ⟨c, e, fr, h1, h2⟩ := hr
    exact ⟨c, e, fr, (hother k hk).trans h1, h2⟩⟩
  have hown : ∀ b, C'.w0.heap.size ≤ b ∨ C'.own0 b → (C.w0.heap.size ≤ b ∨ C.own0 b) ∧ b ≠ D := fun b hb2 => by
    rcases hb2 with k | k
    · exact ⟨.inl (Nat.le_trans hb.size k), fun e => by have := h.lt; omega⟩
    · exact (h.own b).1 k
  have hne : ∀ id o b, hlook H id = some o → m id = some (some b) → b ≠ D := fun id o b h1 h2 => (hown b (hm.blk id o b h1 h2).2.2).2
  refine ⟨⟨⟨hm.os.1.trans hb.os.1, Nat.le_trans hb.os.2 hm.os.2⟩, hm.tape.trans hb.tape, hm.output.trans hb.output, fun a ha => ?_, Nat.le_trans hb.size (by simpa using hm.size), fun b h1 h2 => ?_, ?_, fun b hs => ?_, fun i x hx => hb.n0 i x hx,
    fun id o ho => (hm.objs id o ho).mono hle fun b hb2 => hother b (hne id o b ho hb2), fun id o b h1 h2 => ?_, hm.inj, fun b hs => by simpa using hm.stab b hs, hm.fresh, ?_⟩, hle⟩
  · have hne : a.block ≠ D := fun e => by have := h.new; omega
    have h1 := hm.fz a (Nat.lt_of_lt_of_le ha hb.size)
    have h2 := hb.fz a ha
    rw [← h2, ← h1]
    simp only [World.frozen?, hother _ hne]
  · have hne : b ≠ D := fun e => by have := h.new; omega
    rw [hother b hne, hm.frame b (Nat.lt_of_lt_of_le h1 hb.size) (fun e => by
      rcases ((h.own b).1 e).1 with k | k
      · omega
      · exact h2 k)]
    exact hb.frame b h1 h2
  · have h1 : Le C.S0 C.m0 C.w0 C'.S0 C'.m0 C'.w0 := ⟨hb.le.st, hb.le.same, fun i x hx => by rw [h.m0]; exact hx, hb.le.room⟩
    exact (h1.trans hm.le).trans hle
  · rcases hm.sub b hs with k | k | k
    · exact hb.sub b k
    · rcases ((h.own b).1 k).1 with q | q
      · exact .inr (.inr q)
      · exact .inr (.inl q)
    · exact .inr (.inr (Nat.le_trans hb.size k))
  · obtain ⟨k1, k2, k3⟩ := hm.blk id o b h1 h2
    exact ⟨k1, by simpa using k2, (hown b k3).1⟩
  · obtain ⟨ib, hn⟩ := hm.nst
    refine ⟨_, hn.keep (C' := C) (fun i => i) (fun id sz i j isz irows hO => ⟨hO, rfl⟩) (fun _ _ _ _ _ _ _ _ _ _ _ _ _ _ h => h) hle.st hle.same (fun id sz i j isz irows b2 c2 e2 u hO k1 k2 k3 => ⟨c2, e2, (hother b2 (fun e => by subst e; rw [hD] at k2; cases k2)).trans k2, k3⟩) (fun id sz i j isz irows b' hO hb2 h1 h2 h3 h4 => ?_)⟩
    obtain ⟨q1, q2⟩ := hown b' h3
    exact ⟨hother b' q2, h1, by simpa using h2, q1, h4⟩
end
end Go.RT
/- The statement of a loop over a function. -/
namespace Go.RT
open Go
set_option linter.all false
section
variable {P : Program} {C : Cx} {N : Nat} {G : Env} {H : Hp} {nx : Nat} {Q : Exit → Act → World → Prop}
/-- a slot holds a closure -/
inductive CloAt (G : Env) (t : Tmp) (f : FuncId) : List PV → Prop where
  | own (caps : List PV) : look G t = some (.clo f [] caps) → CloAt G t f caps
  | fz (fs : List FV) : look G t = some (.fz (.clo f fs)) → CloAt G t f (fs.map PV.fz)
theorem CloAt.val {t : Tmp} {f : FuncId} {caps : List PV} (h : CloAt G t f caps) {S : Nat → Prop} {m : Ids} {w : World} {a : Act} (hsl : ∀ t q, look G t = some q → RepAt w S m a t q) : ∃ cs : Array Value, a.eval (.tmp t) = .func (.func f) #[] cs ∧ cs.size = caps.length ∧ ∀ (i : Nat) (c : Value) (p : PV), cs[i]? = some c → caps[i]? = some p → Rep w S m c p := by
  cases h with
  | own _ hl =>
    obtain ⟨v, hv, hr⟩ := hsl t _ hl
    cases hr with
    | clo _ as0 cs _ _ q1 q2 q3 q4 =>
      have has : as0 = #[] := by simpa using q1
      subst has
      exact ⟨cs, by simp [Act.eval, hv], q2, q4⟩
  | fz fs hl =>
    obtain ⟨v, hv, hr⟩ := hsl t _ hl
    cases hr with
    | fz _ _ hr =>
      cases hr with
      | clo _ cs _ q2 q4 =>
        refine ⟨cs, by simp [Act.eval, hv], by simpa using q2, fun i c p hc hp => ?_⟩
        rw [List.getElem?_map] at hp
        obtain ⟨q, hq, rfl⟩ := Option.map_eq_some_iff.1 hp
        exact .fz _ _ (q4 i c q hc hq)
theorem Mem.keepH {S : Nat → Prop} {m : Ids} {w : World} (hm : Mem C H nx S m w) {H' : Hp} (hH : ∀ i o, hlook H' i = some o → hlook H i = some o) : Mem C H' nx S m w :=
  hm.step (Le.refl _ _ _) ⟨rfl, Nat.le_refl _⟩ rfl rfl (fun _ _ => rfl) (Nat.le_refl _) (fun _ _ _ => rfl) (fun _ h => .inl h) (fun i o ho => hm.objs i o (hH i o ho)) (fun i o b ho => hm.blk i o b (hH i o ho))
    (fun i j o o' b h1 h2 => hm.inj i j o o' b (hH _ _ h1) (hH _ _ h2)) hm.stab hm.fresh (hm.nkeep (Le.refl _ _ _) (Nat.le_refl _) (fun _ _ _ _ _ _ h => h.of fun o h => hH _ _ h) (fun _ _ _ _ _ _ _ c e _ _ _ k2 k3 => ⟨c, e, k2, k3⟩) (fun b' _ h2 h3 => ⟨rfl, h2, fun id2 o2 h => h3 _ _ (hH _ _ h)⟩))
theorem MeetsD.keepH {D : Array Value → World → (Ending → World → Prop) → Prop} (hD : ∀ args w R R', D args w R → (∀ e w', R e w' → R' e w') → D args w R') {args : List PV} {n n' : Nat} {Hin Hout Hout' : Hp} {res : PV} (h : MeetsD D args n Hin res Hout n') (hH : ∀ i o, hlook Hout' i = some o → hlook Hout i = some o) : MeetsD D args n Hin res Hout' n' :=
  ⟨fun C vs h1 h2 h3 h4 => hD _ _ _ _ (h.run C vs h1 h2 h3 h4) fun e w' ⟨v, S', m', k1, k2, k3⟩ => ⟨v, S', m', k1, k2.keepH hH, k3⟩⟩
theorem Meets.keepH {f : FuncId} {args : List PV} {n n' : Nat} {Hin Hout Hout' : Hp} {res : PV} (h : Meets P f args n Hin res Hout n') (hH : ∀ i o, hlook Hout' i = some o → hlook Hout i = some o) : Meets P f args n Hin res Hout' n' :=
  ⟨fun C vs h1 h2 h3 h4 => Calls.mono (h.run C vs h1 h2 h3 h4) fun e w' ⟨v, S', m', k1, k2, k3⟩ => ⟨v, S', m', k1, k2.keepH hH, k3⟩⟩
end
end Go.RT
/- '==' on structs that hold structs of numbers. -/
namespace Go.RT
open Go
set_option linter.all false
inductive Cmp (P : Program) : List Field → Nat → List FV → List FV → Prop where
  | nil (k : Nat) : Cmp P [] k [] []
  | int (f : Field) (r : List Field) (k : Nat) (kd kk : IntKind) (u v : Int) (a b : List FV) : (f.name != "_") = true → f.offset = k → P.underlying f.type = some (.int kk) → Cmp P r (k + 1) a b → Cmp P (f :: r) k (.lit (.int kd u) :: a) (.lit (.int kd v) :: b)
  | bool (f : Field) (r : List Field) (k : Nat) (u v : Bool) (a b : List FV) : (f.name != "_") = true → f.offset = k → P.underlying f.type = some .bool → Cmp P r (k + 1) a b → Cmp P (f :: r) k (.lit (.bool u) :: a) (.lit (.bool v) :: b)
  | str (f : Field) (r : List Field) (k n : Nat) (c d a b : List FV) : (f.name != "_") = true → f.offset = k → EqS P f.type n → (P.info? f.type).isSome = true → P.cellsOf f.type = n → c.length = n → d.length = n → fitFs P (P.fieldsOf f.type).toList c d = true → Cmp P r (k + n) a b → Cmp P (f :: r) k (c ++ a) (d ++ b)
section
variable {P : Program} {o : Oper} {g : Bool} {G : Env} {x y : Operand} {t t' : TypeId}
end
end Go.RT
/- The engine, part 44: a nil slice with its capacity told. -/
namespace Go.RT
open Go
set_option linter.all false
variable {G : Env} {H : Hp} {nx : Nat}
theorem Next.adoptC {C : Cx} {N : Nat} {K : Act → World → Prop} (tt sz : Nat) (hl : look G tt = some (.fz (.lit (.slice none 0 0)))) (h : Next C N ((tt, .wc 0 (.sl nx sz 0 0)) :: G) ((nx, some (.flat sz [])) :: H) (nx + 1) K) : Next C N G H nx K := by
  intro a w hR
  obtain ⟨S, m, hm, hsl⟩ := hR.mem
  have hids : ∀ i y, m i = some y → i ≠ nx := fun i y hi => by have := hm.lt hi; omega
  have hle : Le S m w S (setM m nx none) w := ⟨fun _ h => h, fun _ _ => rfl, fun i y hi => by rw [setM_other (hids i y hi)]; exact hi, fun _ _ h => h⟩
  have ex : ∀ id' o' b, hlook ((nx, some (.flat sz [])) :: H) id' = some o' → setM m nx none id' = some (some b) → id' ≠ nx ∧ hlook H id' = some o' ∧ m id' = some (some b) := fun id' o' b h hb => by
    rw [hlook_cons] at h
    by_cases h1 : nx = id'
    · subst h1; rw [setM_self] at hb; cases hb
    · rw [if_neg h1] at h; rw [setM_other (fun e => h1 e.symm)] at hb; exact ⟨fun e => h1 e.symm, h, hb⟩
  refine h a w ⟨hR.defers, hR.size, S, setM m nx none, hm.step hle ⟨rfl, Nat.le_refl _⟩ rfl rfl (fun _ _ => rfl) (Nat.le_refl _) (fun _ _ _ => rfl) (fun _ h => .inl h) (fun id o ho => ?_) (fun id o b ho hb => ?_) (fun i1 i2 o1 o2 b h1 h2 h3 h4 => ?_) hm.stab (fun i hi => ?_) ?_, fun t q hq => ?_⟩
  · rw [hlook_cons] at ho
    by_cases h1 : nx = id
    · rw [if_pos h1] at ho; cases ho; subst h1; exact .inl ⟨setM_self _ _ _, rfl⟩
    · rw [if_neg h1] at ho; exact (hm.objs id o ho).mono hle (fun _ _ => rfl)
  · obtain ⟨_, k1, k2⟩ := ex id o b ho hb; exact hm.blk id o b k1 k2
  · obtain ⟨_, k1, k2⟩ := ex i1 o1 b h1 h3
    obtain ⟨_, k3, k4⟩ := ex i2 o2 b h2 h4
    exact hm.inj i1 i2 o1 o2 b k1 k3 k2 k4
  · rw [setM_other (by omega)]; exact hm.fresh i (by omega)
  · exact hm.nkeep_new hle
  · rw [look_cons] at hq
    by_cases h1 : tt = t
    · rw [if_pos h1] at hq; cases hq; subst h1
      obtain ⟨v, hv, hr⟩ := hsl tt _ hl
      refine ⟨v, hv, ?_⟩
      rw [hr.lit]; exact .wc _ _ _ _ (.sl0 _ _ (setM_self _ _ _))
    · rw [if_neg h1] at hq; exact (hsl t q hq).mono hle

/-- a zero value whose missing slices are read as empty ones -/
theorem zFRep {A : Array Value} {zs : List FV} (h : zOk A.toList zs) (h1 : A.toList.all (·.oneCell') = true) (w : World) (S : Nat → Prop) : FRep w S (.agg A) (.agg zs) := by
  have hl : A.size = zs.length := by simpa using h.len
  refine .agg A zs hl (fun i c f hc hf => ?_) (fun i c hc => ?_)
  · obtain ⟨u, hu, hq⟩ := h.at i f hf
    rw [Array.getElem?_toList, hc] at hu; cases hu
    rcases hq with rfl | ⟨sz, rfl, rfl⟩
    · exact .lit _
    · exact .nil _ _ _
  · exact List.all_eq_true.1 h1 c (Array.mem_toList_iff.2 (Array.mem_of_getElem? hc))
end Go.RT
/- The engine, part 45: strings of bytes. -/
namespace Go.RT
open Go
set_option linter.all false
abbrev encY (n : Int) : List FV := [If .u8 n]
section
variable {P : Program} {o : Oper} {g : Bool} {G : Env} {x y : Operand} {t t' : TypeId}
end
end Go.RT
/- The engine, part 46: an appended slice taken as frozen at once. -/
namespace Go.RT
open Go
set_option linter.all false
section
variable {P : Program} {C : Cx} {o : Oper} {g : Bool} {G : Env} {x y : Operand} {t t' : TypeId} {H : Hp} {nx : Nat}
end
end Go.RT
/- The engine, part 47: a slice in a cell taken as frozen. -/
namespace Go.RT
open Go
set_option linter.all false
section
variable {C : Cx} {N : Nat} {G : Env} {H : Hp} {nx : Nat} {K : Act → World → Prop}
end
end Go.RT
/- The engine, part 48: a frozen slice cut to its length ('s[:n:n]'), and what is appended to it. -/
namespace Go.RT
open Go
set_option linter.all false
section
variable {P : Program} {o : Oper} {g : Bool} {G : Env} {x y : Operand} {t : TypeId} {H : Hp} {nx : Nat}
theorem Mem.skip {C : Cx} {S : Nat → Prop} {m : Ids} {w : World} (hm : Mem C H nx S m w) : Mem C ((nx, none) :: H) (nx + 1) S m w :=
  { hm.keepH (H' := (nx, none) :: H) fun i o h => by
      rw [hlook_cons] at h
      split at h
      · cases h
      · exact h with fresh := fun i hi => hm.fresh i (by omega) }
end
end Go.RT
/- The engine, part 49: slices at an unknown offset in cells that own them. -/
namespace Go.RT
open Go
set_option linter.all false
section
variable {P : Program} {o : Oper} {g : Bool} {G : Env} {x y : Operand} {t : TypeId} {H : Hp} {nx : Nat}
end
end Go.RT
/- The engine, part 50: '==' on structs that hold structs. -/
namespace Go.RT
open Go
set_option linter.all false
section
variable {P : Program} {o : Oper} {g : Bool} {G : Env} {x y : Operand} {t t' : TypeId}
end
section
variable {C : Cx} {N : Nat} {G : Env} {H : Hp} {nx : Nat} {K : Act → World → Prop}
end
end Go.RT
/- 'for k, v := range m' over a map that the loop does not write: the map with its entries laid open, the iterator as a raw object; range, next, entry. -/
namespace Go.RT
open Go
set_option linter.all false
open Go.ChangeMaps (setBlock)
theorem setB_id {w : World} {b : Nat} {x : Obj} (h : w.heap[b]? = some x) : setBlock w b x = w := by
  obtain ⟨hb, hx⟩ := Array.getElem?_eq_some_iff.1 h
  have e : w.heap.setIfInBounds b x = w.heap := by
    refine Array.ext_getElem? fun i => ?_
    rw [Array.getElem?_setIfInBounds]
    by_cases hi : b = i
    · subst hi; rw [if_pos rfl, if_pos hb]; exact h.symm
    · rw [if_neg hi]
  unfold setBlock
  rw [e]
def bornAt (arr : Array MapEntry) (j : Nat) : Nat := (arr[j]?.map (·.born)).getD 0
def seenOf (arr : Array MapEntry) (js : List Nat) : Array Nat := (js.map (bornAt arr)).toArray
def itObj (b : Nat) (arr : Array MapEntry) (cl : Nat) (js : List Nat) : Obj := .mapIter (some b) cl (seenOf arr js) cl
abbrev Oit (b : Nat) (arr : Array MapEntry) (cl : Nat) (js : List Nat) : Option Ob := some (.raw (itObj b arr cl js))
theorem seenOf_push (arr : Array MapEntry) (js : List Nat) (j : Nat) : seenOf arr (js ++ [j]) = (seenOf arr js).push (bornAt arr j) := by simp [seenOf]
section
variable {P : Program} {C : Cx} {N : Nat} {G : Env} {H : Hp} {nx : Nat} {K : Act → World → Prop}
/-- the map's entries laid open -/
theorem Next.openM (id : Nat) {ks vs : List FV} (hl : hlook H id = some (.map ks vs))
    (h : ∀ (arr : Array MapEntry) (cl b : Nat), arr.size = ks.length → arr.size = vs.length → BornOk arr cl → Next C N G ((id, some (.mapc ks vs arr cl b)) :: H) nx K) : Next C N G H nx K := fun a w hR => by
  obtain ⟨S, m, hm, hsl⟩ := hR.mem
  obtain ⟨b, arr, cl, k1, k2, k3, k4, k5, k6, k7⟩ := hm.objs _ _ hl
  obtain ⟨m1, _⟩ := hm.writeM hl k1 k2 (arr' := arr) (cl' := cl) (o' := .mapc ks vs arr cl b) trivial (fun w' hle hb => ⟨k1, hb, k3, k4, fun i e f q1 q2 => (k5 i e f q1 q2).mono hle.st hle.same, fun i e f q1 q2 => (k6 i e f q1 q2).mono hle.st hle.same, k7⟩)
  rw [setB_id k2] at m1
  exact h arr cl b k3 k4 k7 a w ⟨hR.defers, hR.size, S, m, m1, hsl⟩
theorem born_nodup {arr : Array MapEntry} {cl : Nat} (h : BornOk arr cl) : (arr.toList.map (·.born)).Nodup := by
  rw [List.nodup_iff_pairwise_ne, List.pairwise_map, List.pairwise_iff_getElem]
  intro i j hi hj hij he
  have := h.1 i j arr.toList[i] arr.toList[j] (by simp) (by simp) he
  omega
theorem contains_seen {arr : Array MapEntry} {cl : Nat} (h : BornOk arr cl) {js : List Nat} (hlt : ∀ j ∈ js, j < arr.size) {j : Nat} {e : MapEntry} (hj : arr[j]? = some e) : (seenOf arr js).contains e.born = true ↔ j ∈ js := by
  unfold seenOf
  rw [List.contains_toArray, List.contains_iff_mem, List.mem_map]
  constructor
  · rintro ⟨i, hi, hb⟩
    have := hlt i hi
    have he : arr[i]? = some arr[i] := Array.getElem?_eq_getElem this
    simp only [bornAt, he, Option.map_some, Option.getD_some] at hb
    rw [← h.1 i j _ _ he hj hb]; exact hi
  · intro hi
    exact ⟨j, hi, by simp [bornAt, hj]⟩
section
variable {o : Oper} {g : Bool} {t : TypeId} {x : Operand} {id rid : Nat} {ks vs : List FV} {arr : Array MapEntry} {cl b : Nat}
/-- 'range m' -/
theorem op_rangeM {kt et : TypeId} [hd : TyD P t (.map kt et)] (ho : o.op = .range t x) (hx : Opd G g x (.mp id)) (hl : hlook H id = some (.mapc ks vs arr cl b)) : OpS P o g G H nx (.ptr nx 0 0 0) ((nx, Oit b arr cl []) :: H) (nx + 1) :=
  ⟨fun C S m a w hm hg ha K Q hK => by
    have h1 := hx.rep hg (by simp [ho, Op.operands]) ha
    obtain ⟨k1, k2, _⟩ := hm.objs _ _ hl
    obtain ⟨m1, m2⟩ := hm.newRaw (itObj b arr cl [])
    generalize hv : a.eval x = v at h1
    cases h1 with
    | mp _ b2 hb2 =>
      rw [hb2] at k1; cases k1
      refine wp_value (w' := w.alloc (itObj b arr cl [])) (v := .pointer (some ⟨w.heap.size, 0, none⟩)) ?_ (hK _ _ _ _ m1 m2 (.ptr nx 0 0 0 _ (setM_self _ _ _)))
      have hr := run_range_map w t kt et b arr cl hd.h k2
      simp only [execOp, ho, hv, Sem.run_bind, hr, Result.andThen_ok, Sem.run_pure]
      rfl⟩
/-- the round's key and value, read again -/
theorem op_entryM {js : List Nat} {j : Nat} {fk fv : FV} (ho : o.op = .entry x) (hx : Opd G g x (.ptr rid 0 0 0)) (hr : hlook H rid = Oit b arr cl (js ++ [j])) (hl : hlook H id = some (.mapc ks vs arr cl b)) (hk : ks[j]? = some fk) (hv : vs[j]? = some fv) : OpL P o g G H [rid, id] (.fz (.tup [fk, fv])) := fun H' nx' hag =>
  have hr := (hag rid (by simp)).trans hr
  have hl := (hag id (by simp)).trans hl
  .of fun C S m a w hm hg ha => by
    have h1 := hx.rep hg (by simp [ho, Op.operands]) ha
    obtain ⟨rb, r1, r2⟩ := hm.raw hr
    obtain ⟨k1, k2, k3, k4, k5, k6, k7⟩ := hm.objs _ _ hl
    have hj : j < arr.size := by rw [k3]; exact (List.getElem?_eq_some_iff.1 hk).1
    have he : arr[j]? = some arr[j] := Array.getElem?_eq_getElem hj
    generalize hvv : a.eval x = v at h1
    cases h1 with
    | ptr _ _ _ _ b2 hb2 =>
      rw [hb2] at r1; cases r1
      have hrun := run_entry_at (P := P) w rb b cl (seenOf arr js) arr cl arr[j] (by rw [r2, itObj, seenOf_push]; simp [bornAt, he]) k2 (by simp) (born_nodup k7)
      refine ⟨.tuple #[arr[j].key, arr[j].val], ?_, rep_tup2 (.fz _ _ (k5 j _ _ he hk)) (.fz _ _ (k6 j _ _ he hv))⟩
      simp only [execOp, ho, hvv, Nat.zero_mul, Nat.add_zero, Sem.run_bind, hrun, Result.andThen_ok, Sem.run_pure]
end
/-- THE STEP, ahead of a region: nothing is left, or some entry that was not gone through comes out. -/
theorem n_next {r : Option Nat} {Q : Exit → Act → World → Prop} {idr : Nat} {o : Oper} {rest : List Oper} {x : Operand} {d : Nat} {rid id : Nat} {ks vs : List FV} {arr : Array MapEntry} {cl b : Nat} {js : List Nat} (hok : dstsOK (o :: rest) N = true) (hg : o.guard = none) (hd : o.dst = some d) (ho : o.op = .next x false)
    (hx : Opd G true x (.ptr rid 0 0 0)) (hr : hlook H rid = Oit b arr cl js) (hl : hlook H id = some (.mapc ks vs arr cl b)) (hlt : ∀ j ∈ js, j < arr.size)
    (hEnd : (∀ j, j < arr.size → j ∈ js) → Run P (o :: rest).toArray (FinR C N (o :: rest) (Q .normal)) rest ((d, .fz (.tup [Bf false])) :: G) H nx [])
    (hMore : ∀ (j : Nat) (fk fv : FV), j < arr.size → j ∉ js → ks[j]? = some fk → vs[j]? = some fv → Run P (o :: rest).toArray (FinR C N (o :: rest) (Q .normal)) rest ((d, .fz (.tup [Bf true, fk, fv])) :: G) ((rid, Oit b arr cl (js ++ [j])) :: H) nx []) :
    Next C N G H nx ((Code.region idr (o :: rest).toArray false).wpM r P Q) := fun a w hR => by
  obtain ⟨S, m, hm, hsl⟩ := hR.mem
  have hok' : dstsOK rest N = true := by simp only [dstsOK, List.all_cons, Bool.and_eq_true] at hok; exact hok.2
  have hdN : d < N := by simp only [dstsOK, List.all_cons, hd, Bool.and_eq_true, decide_eq_true_eq] at hok; exact hok.1
  have h1 := hx.rep (o := o) rfl (by simp [ho, Op.operands]) (fun t q _ hq => hsl t q hq)
  obtain ⟨rb, r1, r2⟩ := hm.raw hr
  obtain ⟨k1, k2, k3, k4, k5, k6, k7⟩ := hm.objs _ _ hl
  have putRel : ∀ {H' : Hp} {w' : World} {v : Value} {q : PV}, Mem C H' nx S m w' → Le S m w S m w' → Rep w' S m v q → Rel C N ((d, q) :: G) H' nx (a.put o.dst v) w' := by
    intro H' w' v q h3 h4 h6
    refine ⟨by rw [put_defers]; exact hR.defers, by rw [put_size]; exact hR.size, S, m, h3, fun t q' hq' => ?_⟩
    rw [look_cons] at hq'
    by_cases hdt : d = t
    · rw [if_pos hdt] at hq'; cases hq'
      subst hdt
      rw [hd]
      exact ⟨v, put_self (by rw [hR.size]; exact hdN), h6⟩
    · rw [if_neg hdt] at hq'
      obtain ⟨u, hu, hr⟩ := hsl t q' hq'
      exact ⟨u, (put_at (fun e => hdt (by rw [hd] at e; exact Option.some.inj e))).trans hu, hr.mono h4⟩
  have fin : ∀ {G' : Env} {H' : Hp} {a' : Act} {w' : World}, Run P (o :: rest).toArray (FinR C N (o :: rest) (Q .normal)) rest G' H' nx [] → Rel C N G' H' nx a' w' → wpListIn (FM r) 0 P (o :: rest).toArray Q rest a' w' := fun hrun hrel => by
    obtain ⟨ks', G2, H2, nx2, hd2, hF⟩ := hrun.der
    exact der_list hd2 hok' hF.next _ _ hrel
  refine wpIn_region_lit (wpListIn_plain hg fun K hK => ?_)
  generalize hv : a.eval x = v at h1
  cases h1 with
  | ptr _ _ _ _ b2 hb2 =>
    rw [hb2] at r1; cases r1
    have hborn : ∀ y ∈ arr.toList, y.born < cl := fun y hy => by
      obtain ⟨i, hi⟩ := List.mem_iff_getElem?.1 hy
      rw [Array.getElem?_toList] at hi
      exact k7.2 i y hi
    rcases run_next_at (P := P) w o.type rb b cl cl (seenOf arr js) arr cl r2 k2 hborn (Nat.le_refl _) with ⟨h0, hrun⟩ | ⟨e, he, w1, hw1, hrun⟩
    · have hall : ∀ j, j < arr.size → j ∈ js := fun j hj => by
        have hje : arr[j]? = some arr[j] := Array.getElem?_eq_getElem hj
        rw [← contains_seen k7 hlt hje]
        cases hc : (seenOf arr js).contains arr[j].born with
        | true => rfl
        | false =>
          have : arr[j] ∈ leftOf arr (seenOf arr js) := by
            unfold leftOf
            rw [Array.mem_filter]
            exact ⟨Array.getElem_mem hj, by rw [hc]; rfl⟩
          rw [Array.eq_empty_of_size_eq_zero h0] at this
          simp at this
      refine (wp_value (w' := w) (v := .tuple #[.bool false]) ?_ (hK _ _ (fin (hEnd hall) (putRel hm (Le.refl _ _ _) (.fz _ _ (.tup _ _ rfl (fun i c f hc hf => ?_))))))) r
      · simp only [execOp, ho, hv, Nat.zero_mul, Nat.add_zero, Sem.run_bind, hrun, Result.andThen_ok, Sem.run_pure]
      · match i, hc, hf with
        | 0, hc, hf => cases hc; cases hf; exact .lit _
        | i + 1, hc, _ => simp at hc
    · have hem : e ∈ arr ∧ (seenOf arr js).contains e.born = false := by
        have := he
        unfold leftOf at this
        simpa using this
      obtain ⟨j, hj, hje⟩ := Array.mem_iff_getElem.1 hem.1
      have hje' : arr[j]? = some e := by rw [← hje]; exact Array.getElem?_eq_getElem hj
      have hnj : j ∉ js := fun hc => by
        rw [(contains_seen k7 hlt hje').2 hc] at hem; cases hem.2
      have hkj : ks[j]? = some ks[j] := List.getElem?_eq_getElem (by rw [← k3]; exact hj)
      have hvj : vs[j]? = some vs[j] := List.getElem?_eq_getElem (by rw [← k4]; exact hj)
      have hob : itObj b arr cl (js ++ [j]) = .mapIter (some b) cl ((seenOf arr js).push e.born) cl := by
        unfold itObj; rw [seenOf_push]; simp [bornAt, hje']
      have hw2 : Mem C H nx S m w1 ∧ Le S m w S m w1 := by
        rcases hw1 with rfl | rfl
        · exact ⟨hm, Le.refl _ _ _⟩
        · exact ⟨hm.drew, ⟨fun _ h => h, fun _ _ => rfl, fun _ _ h => h, fun _ _ h => h⟩⟩
      obtain ⟨m1, m2⟩ := hw2.1.rawSet (itObj b arr cl (js ++ [j])) hr hb2 rfl rfl
      have hpo : w1.putObj rb (itObj b arr cl (js ++ [j])) = setBlock w1 rb (.mapIter (some b) cl ((seenOf arr js).push e.born) cl) := by rw [hob]; rfl
      have hle := hw2.2.trans m2
      have r5 := (k5 j e _ hje' hkj).mono hle.st hle.same
      have r6 := (k6 j e _ hje' hvj).mono hle.st hle.same
      have hrep : Rep (w1.putObj rb (itObj b arr cl (js ++ [j]))) S m (.tuple #[.bool true, e.key, e.val]) (.fz (.tup [Bf true, ks[j], vs[j]])) := .fz _ _ (.tup _ _ rfl fun i c f hc hf => by
        match i, hc, hf with
        | 0, hc, hf => cases hc; cases hf; exact .lit _
        | 1, hc, hf => cases hc; cases hf; exact r5
        | 2, hc, hf => cases hc; cases hf; exact r6
        | i + 3, hc, _ => simp at hc)
      refine (wp_value (w' := setBlock w1 rb (.mapIter (some b) cl ((seenOf arr js).push e.born) cl)) (v := .tuple #[.bool true, e.key, e.val]) ?_ (hK _ _ (fin (hMore j _ _ hj hnj hkj hvj) (putRel (by rw [← hpo]; exact m1) (by rw [← hpo]; exact hle) (by rw [← hpo]; exact hrep))))) r
      simp only [execOp, ho, hv, Nat.zero_mul, Nat.add_zero, Sem.run_bind, hrun, Result.andThen_ok, Sem.run_pure]
end
end Go.RT
/- Short names of steps. -/
namespace Go.RT
theorem za {α β : Prop} (k : β) (h : β → α := by intro h; exact s_reg rfl h) : α := h k
theorem zb {α β : Prop} (k : β) (h : β → α := by intro h; exact rnZ h) : α := h k
theorem zc {α β : Prop} (k : β) (h : β → α := by intro h; exact rmZ _ rfl rfl rfl h) : α := h k
theorem zd {α β : Prop} (k : β) (h : β → α := by intro h; exact raZ _ rfl rfl rfl h) : α := h k
theorem ze {α β : Prop} (k : β) (h : β → α := by intro h; exact rpZ _ rfl (op_assign rfl oC) h) : α := h k
theorem zf {α β : Prop} (k : β) (h : β → α := by intro h; exact rpZ _ rfl (op_fld_ptr (by decide) rfl (oT rfl)) h) : α := h k
theorem zg {α β : Prop} (k : β) (h : β → α := by intro h; exact Run.eff (dd := _) rfl rfl (op_store_flat rfl (oT rfl) (oT rfl) tC rfl rfl (by first | rfl | assumption) tS) h) : α := h k
theorem zh {α β : Prop} (k : β) (h : β → α := by intro h; exact rlZ _ rfl (op_load1_flat rfl (oT rfl) tH rfl) h) : α := h k
theorem zi {α β : Prop} (k : β) (h : β → α := by intro h; exact rpZ _ rfl (op_extract_fz rfl (oT rfl) rfl) h) : α := h k
theorem zj {α β : Prop} (k : β) (h : β → α := by intro h; exact rpZ _ rfl (op_add rfl (oT rfl) oC tI) h) : α := h k
theorem zk {α β : Prop} (k : β) (h : β → α := by intro h; exact rpZ _ rfl (op_len_fz rfl (by first | exact Opd.tmp _ _ rfl | exact Opd.nil _ _ (oT rfl)) (by first | exact List.length_map _ | rfl)) h) : α := h k
theorem zl {α β : Prop} (k : β) (h : β → α := by intro h; exact gmZ _ rfl rfl tG rfl rfl h) : α := h k
theorem zm {α β : Prop} (k : β) (h : β → α := by intro h; exact rlZ _ rfl (op_loadw_flat rfl (oT rfl) tH rfl) h) : α := h k
theorem zn {α β : Prop} (k : β) (h : β → α := by intro h; exact rpZ _ rfl (op_lss rfl (oT rfl) (oT rfl)) h) : α := h k
theorem zo {α β : Prop} (k : β) (h : β → α := by intro h; exact Run.eff (dd := _) rfl rfl (op_alloc rfl rfl rfl rfl) h) : α := h k
theorem zp {α β : Prop} (k : β) (h : β → α := by intro h; exact rgZ _ rfl rfl tG (op_fld_ptr (by decide) rfl (oT rfl)) h) : α := h k
theorem zq {α β : Prop} (k : β) (h : β → α := by intro h; exact Run.nil (FinD.mk (by kernel_rfl) h)) : α := h k
theorem zr {α β : Prop} (k : β) (h : β → α := by intro h; exact rpZ _ rfl (op_idx_fz _ rfl (oT rfl) (oT rfl) tF) h) : α := h k
theorem zs {α β : Prop} (k : β) (h : β → α := by intro h; exact rkZ _ rfl rfl tG (op_load1_flat rfl (oO rfl tO) tH rfl) h) : α := h k
theorem zt {α β : Prop} (k : β) (h : β → α := by intro h; exact rpZ _ rfl (op_load1_fz rfl (oT rfl) rfl) h) : α := h k
theorem zu {α β : Prop} (k : β) (h : β → α := by intro h; exact Run.eff (dd := _) rfl rfl (op_box_flat rfl (oT rfl) tC rfl) h) : α := h k
theorem zv {α β : Prop} (k : β) (h : β → α := by intro h; exact rpZ _ rfl (op_loadw_fz rfl (oT rfl) rfl) h) : α := h k
theorem zw {α β : Prop} (k : β) (h : β → α := by intro h; exact rpZ _ rfl (op_nilck_ptr rfl (oT rfl)) h) : α := h k
theorem zx {α β : Prop} (k : β) (h : β → α := by intro h; exact rpZ _ rfl (op_move rfl oC) h) : α := h k
theorem zy {α β : Prop} (k : β) (h : β → α := by intro h; exact rpZ _ rfl (op_pick_and rfl (oT rfl) (oO rfl tO)) h) : α := h k
theorem zqqz {α β : Prop} (k : β) (h : β → α := by intro h; exact rpZ _ rfl (op_buildSlice_fz rfl (RowsF.cons _ _ _ _ _ _ (oT rfl) tC (by rfl) (RowsF.nil _)) rfl rfl) h) : α := h k
theorem zba {α β : Prop} (k : β) (h : β → α := by intro h; exact rpZ _ rfl (op_eql rfl (oT rfl) oC) h) : α := h k
theorem zbb {α β : Prop} (k : β) (h : β → α := by intro h; exact rlZ _ rfl (op_load1_refs rfl (oT rfl) tH rfl) h) : α := h k
theorem zbc {α β : Prop} (k : β) (h : β → α := by intro h; exact rlZ _ rfl (op_loadn_flat rfl (oT rfl) tH tR tR) h) : α := h k
theorem zbd {α β : Prop} (k : β) (h : β → α := by intro h; exact rpZ _ rfl (op_pick_or rfl (oT rfl) (oO rfl tO)) h) : α := h k
theorem zbe {α β : Prop} (k : β) (h : β → α := by intro h; exact rpZ _ rfl (op_neq rfl (oT rfl) oC) h) : α := h k
theorem zbf {α β : Prop} (k : β) (h : β → α := by intro h; exact rpZ _ rfl (op_fld_fz (by decide) rfl (oT rfl) tR) h) : α := h k
theorem zbg {α β : Prop} (k : β) (h : β → α := by intro h; exact rpZ _ rfl (op_build rfl rfl rfl (FillF.nil _)) h) : α := h k
theorem zbh {α β : Prop} (k : β) (h : β → α := by intro h; exact rpZ _ rfl (op_conv rfl (oT rfl) tI) h) : α := h k
theorem zbi {α β : Prop} (k : β) (h : β → α := by intro h; exact Run.eff (dd := _) rfl rfl (op_append rfl (oT rfl) (oT rfl) rfl (by simp) rfl rfl tB tB) h) : α := h k
theorem zbj {α β : Prop} (k : β) (h : β → α := by intro h; exact rpZ _ rfl (op_not rfl (oT rfl)) h) : α := h k
theorem zbk {α β : Prop} (k : β) (h : β → α := by intro h; exact rpZ _ rfl (op_neq rfl (oT rfl) (oT rfl)) h) : α := h k
theorem zbl {α β : Prop} (k : β) (h : β → α := by intro h; exact rpZ _ rfl (op_len_sl rfl (oT rfl)) h) : α := h k
theorem zbm {α β : Prop} (k : β) (h : β → α := by intro h; exact rpZ _ rfl (op_add rfl (oT rfl) (oT rfl) tI) h) : α := h k
theorem zbn {α β : Prop} (k : β) (h : β → α := by intro h; exact rpZ _ rfl (op_build rfl rfl rfl (FillF.cons _ _ _ _ _ _ _ _ _ _ (by rfl) (oT rfl) tC (by rfl) tR (FillF.cons _ _ _ _ _ _ _ _ _ _ (by rfl) (oT rfl) tC (by rfl) tR (FillF.nil _)))) h) : α := h k
theorem zbo {α β : Prop} (k : β) (h : β → α := by intro h; exact rgZ _ rfl rfl tG (op_gtr rfl (oO rfl tO) oC) h) : α := h k
theorem zbp {α β : Prop} (k : β) (h : β → α := by intro h; exact rgZ _ rfl rfl tG (op_eql rfl (oO rfl tO) (oO rfl tO)) h) : α := h k
theorem zbq {α β : Prop} (k : β) (h : β → α := by intro h; exact rpZ _ rfl (op_lss rfl (oT rfl) oC) h) : α := h k
theorem zbs {α β : Prop} (k : β) (h : β → α := by intro h; exact rgZ _ rfl rfl tG (op_fld_fz (by decide) rfl (oO rfl tO) tR) h) : α := h k
theorem zbt {α β : Prop} (k : β) (h : β → α := by intro h; exact rgZ _ rfl rfl tG (op_load1_fz rfl (oO rfl tO) rfl) h) : α := h k
theorem zbu {α β : Prop} (k : β) (h : β → α := by intro h; exact rpZ _ rfl (op_gtr rfl (oT rfl) oC) h) : α := h k
theorem zbv {α β : Prop} (k : β) (h : β → α := by intro h; exact rpZ _ rfl (op_sub rfl (oT rfl) oC tI) h) : α := h k
theorem zbw {α β : Prop} (k : β) (h : β → α := by intro h; exact rgZ _ rfl rfl tG (op_eql rfl (oO rfl tO) oC) h) : α := h k
theorem zbx {α β : Prop} (k : β) (h : β → α := by intro h; exact rpZ _ rfl (op_eql rfl (oT rfl) (oT rfl)) h) : α := h k
theorem zby {α β : Prop} (k : β) (h : β → α := by intro h; exact rkZ _ rfl rfl tG (op_loadw_flat rfl (oT rfl) tH rfl) h) : α := h k
theorem zbz {α β : Prop} (k : β) (h : β → α := by intro h; exact rpZ _ rfl (op_gtr rfl (oT rfl) (oT rfl)) h) : α := h k
theorem zca {α β : Prop} (k : β) (h : β → α := by intro h; exact rgZ _ rfl rfl tG (op_not rfl (oO rfl tO)) h) : α := h k
theorem zcb {α β : Prop} (k : β) (h : β → α := by intro h; exact Run.eff (dd := _) rfl rfl (op_store_refs rfl (oT rfl) (oT rfl) tP rfl rfl rfl tS) h) : α := h k
theorem zcd {α β : Prop} (k : β) (h : β → α := by intro h; exact rpZ _ rfl (op_build rfl rfl rfl (FillF.cons _ _ _ _ _ _ _ _ _ _ (by rfl) (oT rfl) tC (by rfl) tR (FillF.cons _ _ _ _ _ _ _ _ _ _ (by rfl) (oT rfl) tC (by rfl) tR (FillF.cons _ _ _ _ _ _ _ _ _ _ (by rfl) (oT rfl) tC (by rfl) tR (FillF.nil _))))) h) : α := h k
theorem zce {α β : Prop} (k : β) (h : β → α := by intro h; exact rgZ _ rfl rfl tG (op_move rfl (oO rfl tO)) h) : α := h k
theorem zcf {α β : Prop} (k : β) (h : β → α := by intro h; exact rgZ _ rfl rfl tG (op_sub rfl (oO rfl tO) oC tI) h) : α := h k
theorem zcg {α β : Prop} (k : β) (h : β → α := by intro h; exact rpZ _ rfl (op_geq rfl (oT rfl) oC) h) : α := h k
theorem zch {α β : Prop} (k : β) (h : β → α := by intro h; exact Run.effW (dd := _) rfl rfl (op_store_flat rfl (oT rfl) (oT rfl) tC rfl rfl (by first | rfl | assumption) tS) tE h) : α := h k
theorem zci {α β : Prop} (k : β) (h : β → α := by intro h; exact rgZ _ rfl rfl tG (op_len_fz rfl (by first | exact Opd.topt _ _ _ rfl tO | exact Opd.nil _ _ (oO rfl tO)) (by first | exact List.length_map _ | rfl)) h) : α := h k
theorem zcj {α β : Prop} (k : β) (h : β → α := by intro h; exact rgZ _ rfl rfl tG (op_gtr rfl (oO rfl tO) (oO rfl tO)) h) : α := h k
theorem zck {α β : Prop} (k : β) (h : β → α := by intro h; exact rgZ _ rfl rfl tG (op_fld_ptr (by decide) rfl (oO rfl tO)) h) : α := h k
theorem zcl {α β : Prop} (k : β) (h : β → α := by intro h; exact rlZ _ rfl (op_loadn_refs rfl (oT rfl) tH tR tR) h) : α := h k
theorem zcn {α β : Prop} (k : β) (h : β → α := by intro h; exact rpZ _ rfl (op_max rfl (oT rfl) oC) h) : α := h k
theorem zco {α β : Prop} (k : β) (h : β → α := by intro h; exact rgZ _ rfl rfl tG (op_pick_and rfl (oO rfl tO) (oO rfl tO)) h) : α := h k
theorem zcp {α β : Prop} (k : β) (h : β → α := by intro h; exact rpZ _ rfl (op_eqS rfl (oT rfl) (oT rfl) (by kernel_rfl)) h) : α := h k
theorem zcq {α β : Prop} (k : β) (h : β → α := by intro h; exact rpZ _ rfl (op_neS rfl (oT rfl) (oT rfl) (by kernel_rfl)) h) : α := h k
theorem zcr {α β : Prop} (k : β) (h : β → α := by intro h; exact rgZ _ rfl rfl tG (op_leq rfl (oO rfl tO) (oO rfl tO)) h) : α := h k
theorem zct {α β : Prop} (k : β) (h : β → α := by intro h; exact rgZ _ rfl rfl tG (op_lss rfl (oO rfl tO) oC) h) : α := h k
theorem zcu {α β : Prop} (k : β) (h : β → α := by intro h; exact rgZ _ rfl rfl tG (op_idx_fz _ rfl (oO rfl tO) (oO rfl tO) tF) h) : α := h k
theorem zcv {α β : Prop} (k : β) (h : β → α := by intro h; exact rgZ _ rfl rfl tG (op_lss rfl (oO rfl tO) (oO rfl tO)) h) : α := h k
theorem zcw {α β : Prop} (k : β) (h : β → α := by intro h; exact rpZ _ rfl (op_buildSlice_fz rfl (RowsF.cons _ _ _ _ _ _ (oT rfl) tC (by rfl) (RowsF.cons _ _ _ _ _ _ (oT rfl) tC (by rfl) (RowsF.nil _))) rfl rfl) h) : α := h k
theorem zcx {α β : Prop} (k : β) (h : β → α := by intro h; exact Run.eff (dd := _) rfl rfl (op_buildSlice_own rfl (RowsF.nil _) rfl rfl rfl) h) : α := h k
theorem zcy {α β : Prop} (k : β) (h : β → α := by intro h; exact Run.eff (dd := _) rfl rfl (op_append rfl (oT rfl) (oT rfl) rfl rfl rfl rfl tB tB) h) : α := h k
theorem zcz {α β : Prop} (k : β) (h : β → α := by intro h; exact Run.eff (dd := _) rfl rfl (op_buildSlice_own rfl (RowsF.cons _ _ _ _ _ _ (oT rfl) tC (by rfl) (RowsF.nil _)) rfl rfl rfl) h) : α := h k
theorem zda {α β : Prop} (k : β) (h : β → α := by intro h; exact rgZ _ rfl rfl tG (op_pick_or rfl (oO rfl tO) (oO rfl tO)) h) : α := h k
theorem zdd {α β : Prop} (k : β) (h : β → α := by intro h; exact Run.eff (dd := _) rfl rfl (op_append_own0 rfl (oT rfl) (oT rfl) rfl (by first | rfl | simp) rfl (by first | rfl | simp) rfl rfl tB tB) h) : α := h k
theorem zde {α β : Prop} (k : β) (h : β → α := by intro h; exact rgZ _ rfl rfl tG (op_conv rfl (oO rfl tO) tI) h) : α := h k
theorem zdf {α β : Prop} (k : β) (h : β → α := by intro h; exact Run.effW (dd := _) rfl rfl (op_store_flat rfl (oT rfl) (oT rfl) tC rfl rfl (by first | rfl | assumption) tS) (by first | exact ext_call | exact tE) h) : α := h k
theorem zdg {α β : Prop} (k : β) (h : β → α := by intro h; exact rpZ _ rfl (op_sub rfl (oT rfl) (oT rfl) tI) h) : α := h k
theorem zdh {α β : Prop} (k : β) (h : β → α := by intro h; exact rpZ _ rfl (op_mul rfl oC (oT rfl) tI) h) : α := h k
theorem zdi {α β : Prop} (k : β) (h : β → α := by intro h; exact rpZ _ rfl (op_eqnil rfl (oT rfl)) h) : α := h k
theorem zdj {α β : Prop} (k : β) (h : β → α := by intro h; exact rgZ _ rfl rfl tG (op_nilck_ptr rfl (oO rfl tO)) h) : α := h k
theorem zdk {α β : Prop} (k : β) (h : β → α := by intro h; exact rkZ _ rfl rfl tG (op_load1_refs rfl (oO rfl tO) tH rfl) h) : α := h k
theorem zdm {α β : Prop} (k : β) (h : β → α := by intro h; exact rgZ _ rfl rfl tG (op_neq rfl (oO rfl tO) (oO rfl tO)) h) : α := h k
theorem zdo {α β : Prop} (k : β) (h : β → α := by intro h; exact rgZ _ rfl rfl tG (op_add rfl (oO rfl tO) oC tI) h) : α := h k
theorem zdq {α β : Prop} (k : β) (h : β → α := by intro h; exact rpZ _ rfl (op_build rfl rfl rfl (FillF.cons _ _ _ _ _ _ _ _ _ _ (by rfl) (oT rfl) tC (by rfl) tR (FillF.nil _))) h) : α := h k
theorem zdr {α β : Prop} (k : β) (h : β → α := by intro h; exact rgZ _ rfl rfl tG (op_geq rfl (oO rfl tO) (oO rfl tO)) h) : α := h k
theorem zds {α β : Prop} (k : β) (h : β → α := by intro h; exact rgZ _ rfl rfl tG (op_geq rfl (oO rfl tO) oC) h) : α := h k
theorem zdt {α β : Prop} (k : β) (h : β → α := by intro h; exact rpZ _ rfl (op_geq rfl (oT rfl) (oT rfl)) h) : α := h k
theorem zdu {α β : Prop} (k : β) (h : β → α := by intro h; exact rgZ _ rfl rfl tG (op_neq rfl (oO rfl tO) oC) h) : α := h k
theorem zdv {α β : Prop} (k : β) (h : β → α := by intro h; exact rgZ _ rfl rfl tG (op_loadw_fz rfl (oO rfl tO) rfl) h) : α := h k
theorem zdw {α β : Prop} (k : β) (h : β → α := by intro h; exact rgZ _ rfl rfl tG (op_add rfl (oO rfl tO) (oO rfl tO) tI) h) : α := h k
theorem zdy {α β : Prop} (k : β) (h : β → α := by intro h; exact Run.effW (dd := _) rfl rfl (op_append rfl (oT rfl) (by first | exact Opd.tmp _ _ rfl | exact Opd.nil _ _ (oT rfl)) rfl (by first | rfl | simp) rfl rfl tB tB) (by first | exact ext_call | exact tE) h) : α := h k
theorem zz {α β : Prop} (k : β) (h : β → α := by intro h; exact rpZ _ rfl (op_convw rfl (oT rfl)) h) : α := h k
theorem zdz {α β : Prop} (k : β) (h : β → α := by intro h; exact rpZ _ rfl (op_idx_sl0 _ rfl (oT rfl) (oT rfl) tD) h) : α := h k
theorem zea {α β : Prop} (k : β) (h : β → α := by intro h; exact rpZ _ rfl (op_rem rfl (oT rfl) oC tM) h) : α := h k
theorem zeb {α β : Prop} (k : β) (h : β → α := by intro h; exact rpZ _ rfl (op_makeFunc rfl (oS (oT rfl) Opds.nil) Opds.nil) h) : α := h k
theorem zec {α β : Prop} (k : β) (h : β → α := by intro h; exact Run.eff (dd := _) rfl rfl (op_allocP rfl rfl rfl rfl rfl) h) : α := h k
theorem zed {α β : Prop} (k : β) (h : β → α := by intro h; exact Run.eff (dd := _) rfl rfl (op_append rfl (oT rfl) (by first | exact Opd.tmp _ _ rfl | exact Opd.nil _ _ (oT rfl)) rfl (by first | rfl | simp) rfl rfl tB tB) h) : α := h k
theorem zee {α β : Prop} (k : β) (h : β → α := by intro h; exact rpZ _ rfl (op_build rfl rfl rfl (FillF.cons _ _ _ _ _ _ _ _ _ _ (by rfl) oC tC (by rfl) tR (FillF.cons _ _ _ _ _ _ _ _ _ _ (by rfl) oC tC (by rfl) tR (FillF.cons _ _ _ _ _ _ _ _ _ _ (by rfl) oC tC (by rfl) tR (FillF.cons _ _ _ _ _ _ _ _ _ _ (by rfl) oC tC (by rfl) tR (FillF.nil _)))))) h) : α := h k
theorem zef {α β : Prop} (k : β) (h : β → α := by intro h; exact rgZ _ rfl rfl tG (op_loadn_fz rfl (oO rfl tO) tR) h) : α := h k
theorem zeg {α β : Prop} (k : β) (h : β → α := by intro h; exact Run.eff (dd := _) rfl rfl (op_makeMap rfl) h) : α := h k
theorem zeh {α β : Prop} (k : β) (h : β → α := by intro h; exact rpZ _ rfl (op_build rfl rfl rfl (FillF.cons _ _ _ _ _ _ _ _ _ _ (by rfl) oC tC (by rfl) tR (FillF.cons _ _ _ _ _ _ _ _ _ _ (by rfl) oC tC (by rfl) tR (FillF.nil _)))) h) : α := h k
theorem zei {α β : Prop} (k : β) (h : β → α := by intro h; exact rgZ _ rfl rfl tG (op_idx_sl0 _ rfl (oO rfl tO) (oO rfl tO) tD) h) : α := h k
theorem zej {α β : Prop} (k : β) (h : β → α := by intro h; exact rpZ _ rfl (op_build rfl rfl rfl (FillF.cons _ _ _ _ _ _ _ _ _ _ (by rfl) (oT rfl) tC (by rfl) tR (FillF.cons _ _ _ _ _ _ _ _ _ _ (by rfl) (oT rfl) tC (by rfl) tR (FillF.cons _ _ _ _ _ _ _ _ _ _ (by rfl) (oT rfl) tC (by rfl) tR (FillF.cons _ _ _ _ _ _ _ _ _ _ (by rfl) (oT rfl) tC (by rfl) tR (FillF.nil _)))))) h) : α := h k
theorem zek {α β : Prop} (k : β) (h : β → α := by intro h; exact rpZ _ rfl (op_build rfl rfl rfl (FillF.cons _ _ _ _ _ _ _ _ _ _ (by rfl) oC tC (by rfl) tR (FillF.cons _ _ _ _ _ _ _ _ _ _ (by rfl) (oT rfl) tC (by rfl) tR (FillF.cons _ _ _ _ _ _ _ _ _ _ (by rfl) (oT rfl) tC (by rfl) tR (FillF.nil _))))) h) : α := h k
theorem zel {α β : Prop} (k : β) (h : β → α := by intro h; exact Run.eff (dd := _) rfl rfl (op_append rfl (oT rfl) (oT rfl) rfl (by simp; omega) rfl rfl tB tB) h) : α := h k
theorem zem {α β : Prop} (k : β) (h : β → α := by intro h; exact rpZ _ rfl (op_buildSlice_fz rfl (RowsF.cons _ _ _ _ _ _ (oT rfl) tC (by rfl) (RowsF.cons _ _ _ _ _ _ (oT rfl) tC (by rfl) (RowsF.cons _ _ _ _ _ _ (oT rfl) tC (by rfl) (RowsF.nil _)))) rfl rfl) h) : α := h k
theorem zen {α β : Prop} (k : β) (h : β → α := by intro h; exact rpZ _ rfl (op_build rfl rfl rfl (FillF.cons _ _ _ _ _ _ _ _ _ _ (by rfl) (oT rfl) tC (by rfl) tR (FillF.cons _ _ _ _ _ _ _ _ _ _ (by rfl) oC tC (by rfl) tR (FillF.cons _ _ _ _ _ _ _ _ _ _ (by rfl) oC tC (by rfl) tR (FillF.cons _ _ _ _ _ _ _ _ _ _ (by rfl) (oT rfl) tC (by rfl) tR (FillF.nil _)))))) h) : α := h k
theorem zeo {α β : Prop} (k : β) (h : β → α := by intro h; exact Run.effW (dd := _) rfl rfl (op_buildSlice_own rfl (RowsF.cons _ _ _ _ _ _ (oT rfl) tC (by rfl) (RowsF.nil _)) rfl rfl rfl) (by first | exact ext_call | exact tE) h) : α := h k
theorem wG {α : Prop} (h : α := by repeat (first | exact trivial | refine ⟨⟨_, rfl, .inl ⟨rfl, rfl⟩⟩, ?_⟩ | refine ⟨⟨_, rfl, .inl ⟨slEq rfl tN, rfl⟩⟩, ?_⟩ | refine ⟨⟨_, rfl, .inl ⟨ivEq tX, rfl⟩⟩, ?_⟩)) : α := h
theorem wF {α : Prop} (h : α := by repeat (first | exact trivial | refine ⟨⟨_, rfl, .inl ⟨rfl, rfl⟩⟩, ?_⟩ | refine ⟨⟨_, rfl, .inl ⟨slEq rfl tN, rfl⟩⟩, ?_⟩ | refine ⟨⟨_, rfl, .inl ⟨ivEq tX, rfl⟩⟩, ?_⟩ | refine ⟨⟨_, rfl, .inr ⟨_, rfl, tW⟩⟩, ?_⟩)) : α := h
theorem wS {α : Prop} (h : α := by exact ent_same rfl rfl rfl tL) : α := h
theorem wN {α : Prop} (h : α := by intro _ h; simp at h) : α := h
theorem wR {α : Prop} (h : α := by repeat (first | exact trivial | refine ⟨wS, ?_⟩)) : α := h
theorem wK {α β : Prop} (hC : β) (h : β → α := by intro hC; first | exact keeps0 hC _ | exact keepsN hC _ rfl) : α := h hC
theorem wO {α β : Prop} (hC : β) (h : β → α := by intro hC; first | exact s_o1 hC rfl tV | exact s_o2 hC rfl tV tV | exact s_o3 hC rfl tV tV tV | exact s_o4 hC rfl tV tV tV tV | exact s_out0 hC rfl | exact s_outO hC rfl rfl rfl) : α := h hC
end Go.RT
/- The types and functions of the translation, as the rules ask for them. Written by tab.py. -/
namespace Go.Proofs.YtoeckbdgemnngaaGreat
open Go Go.RT Go.Proofs
set_option linter.unusedVariables false
theorem mixed : Tryz.prog.follows .mixedOrders = true := Tryz.checked.mixed
theorem tyn_of {P : Program} {t : TypeId} {s b : Nat} {z : Value} (h : (P.info? t).map (fun i => (i.size, i.bytes, i.zero)) = some (s, b, some z)) : TyN P t s b z := by
  obtain ⟨i, hi, he⟩ := Option.map_eq_some_iff.1 h
  simp only [Prod.mk.injEq] at he
  exact ⟨i, hi, he.1, he.2.1, he.2.2⟩
instance : TyA Tryz.prog 1 false := ⟨_, Tryz.underlying1, rfl⟩
instance : TyN Tryz.prog 1 1 8 (.nilFunc) := tyn_of (by kernel_rfl)
instance : TyD Tryz.prog 2 (.int .i64) := ⟨Tryz.underlying2⟩
instance : TyA Tryz.prog 2 false := ⟨_, Tryz.underlying2, rfl⟩
instance : TyN Tryz.prog 2 1 8 (.int .i64 0) := tyn_of (by kernel_rfl)
instance : TyD Tryz.prog 3 (.int .i64) := ⟨Tryz.underlying3⟩
instance : TyA Tryz.prog 3 false := ⟨_, Tryz.underlying3, rfl⟩
instance : TyN Tryz.prog 3 1 8 (.int .i64 0) := tyn_of (by kernel_rfl)
instance : TyD Tryz.prog 4 (.bool) := ⟨Tryz.underlying4⟩
instance : TyA Tryz.prog 4 false := ⟨_, Tryz.underlying4, rfl⟩
instance : TyN Tryz.prog 4 1 1 (.bool false) := tyn_of (by kernel_rfl)
instance : TyD Tryz.prog 5 (.int .u8) := ⟨Tryz.underlying5⟩
instance : TyA Tryz.prog 5 false := ⟨_, Tryz.underlying5, rfl⟩
instance : TyN Tryz.prog 5 1 1 (.int .u8 0) := tyn_of (by kernel_rfl)
instance : TyD Tryz.prog 9 (.string) := ⟨Tryz.underlying9⟩
instance : TyA Tryz.prog 9 false := ⟨_, Tryz.underlying9, rfl⟩
instance : TyN Tryz.prog 9 1 16 (.string ⟨#[]⟩) := tyn_of (by kernel_rfl)
instance : TyD Tryz.prog 12 (.int .u64) := ⟨Tryz.underlying12⟩
instance : TyA Tryz.prog 12 false := ⟨_, Tryz.underlying12, rfl⟩
instance : TyN Tryz.prog 12 1 8 (.int .u64 0) := tyn_of (by kernel_rfl)
instance : TyA Tryz.prog 13 true := ⟨_, Tryz.underlying13, rfl⟩
instance : TyN Tryz.prog 13 2 24 (.agg #[.string ⟨#[]⟩, .int .u64 0]) := tyn_of (by kernel_rfl)
instance : TyF Tryz.prog 13 0 0 9 := ⟨_, _, Tryz.underlying13, rfl, rfl, rfl⟩
instance : TyF Tryz.prog 13 1 1 12 := ⟨_, _, Tryz.underlying13, rfl, rfl, rfl⟩
instance : TyB Tryz.prog 13 [(0, 1), (1, 1)] := ⟨_, Tryz.underlying13, fun w => by kernel_rfl⟩
instance : TyD Tryz.prog 21 (.int .i32) := ⟨Tryz.underlying21⟩
instance : TyA Tryz.prog 21 false := ⟨_, Tryz.underlying21, rfl⟩
instance : TyN Tryz.prog 21 1 4 (.int .i32 0) := tyn_of (by kernel_rfl)
instance : TyD Tryz.prog 22 (.slice 44) := ⟨Tryz.underlying22⟩
instance : TyA Tryz.prog 22 false := ⟨_, Tryz.underlying22, rfl⟩
instance : TyN Tryz.prog 22 1 24 (.slice none 0 0) := tyn_of (by kernel_rfl)
instance : TyA Tryz.prog 23 false := ⟨_, Tryz.underlying23, rfl⟩
instance : TyN Tryz.prog 23 1 8 (.nilFunc) := tyn_of (by kernel_rfl)
instance : TyA Tryz.prog 24 false := ⟨_, Tryz.underlying24, rfl⟩
instance : TyN Tryz.prog 24 1 8 (.nilFunc) := tyn_of (by kernel_rfl)
instance : TyA Tryz.prog 25 false := ⟨_, Tryz.underlying25, rfl⟩
instance : TyN Tryz.prog 25 1 8 (.nilFunc) := tyn_of (by kernel_rfl)
instance : TyA Tryz.prog 26 false := ⟨_, Tryz.underlying26, rfl⟩
instance : TyN Tryz.prog 26 1 8 (.nilFunc) := tyn_of (by kernel_rfl)
instance : TyD Tryz.prog 27 (.int .u32) := ⟨Tryz.underlying27⟩
instance : TyA Tryz.prog 27 false := ⟨_, Tryz.underlying27, rfl⟩
instance : TyN Tryz.prog 27 1 4 (.int .u32 0) := tyn_of (by kernel_rfl)
instance : TyD Tryz.prog 28 (.slice 61) := ⟨Tryz.underlying28⟩
instance : TyA Tryz.prog 28 false := ⟨_, Tryz.underlying28, rfl⟩
instance : TyN Tryz.prog 28 1 24 (.slice none 0 0) := tyn_of (by kernel_rfl)
instance : TyA Tryz.prog 29 true := ⟨_, Tryz.underlying29, rfl⟩
instance : TyN Tryz.prog 29 2 32 (.agg #[.int .u32 0, .slice none 0 0]) := tyn_of (by kernel_rfl)
instance : TyF Tryz.prog 29 0 0 27 := ⟨_, _, Tryz.underlying29, rfl, rfl, rfl⟩
instance : TyF Tryz.prog 29 1 1 28 := ⟨_, _, Tryz.underlying29, rfl, rfl, rfl⟩
instance : TyB Tryz.prog 29 [(0, 1), (1, 1)] := ⟨_, Tryz.underlying29, fun w => by kernel_rfl⟩
instance : TyA Tryz.prog 30 true := ⟨_, Tryz.underlying30, rfl⟩
instance : TyN Tryz.prog 30 2 32 (.agg #[.int .u32 0, .slice none 0 0]) := tyn_of (by kernel_rfl)
instance : TyF Tryz.prog 30 0 0 27 := ⟨_, _, Tryz.underlying30, rfl, rfl, rfl⟩
instance : TyF Tryz.prog 30 1 1 28 := ⟨_, _, Tryz.underlying30, rfl, rfl, rfl⟩
instance : TyB Tryz.prog 30 [(0, 1), (1, 1)] := ⟨_, Tryz.underlying30, fun w => by kernel_rfl⟩
instance : TyD Tryz.prog 31 (.slice 49) := ⟨Tryz.underlying31⟩
instance : TyA Tryz.prog 31 false := ⟨_, Tryz.underlying31, rfl⟩
instance : TyN Tryz.prog 31 1 24 (.slice none 0 0) := tyn_of (by kernel_rfl)
instance : TyA Tryz.prog 32 false := ⟨_, Tryz.underlying32, rfl⟩
instance : TyN Tryz.prog 32 1 8 (.nilFunc) := tyn_of (by kernel_rfl)
instance : TyD Tryz.prog 33 (.slice 41) := ⟨Tryz.underlying33⟩
instance : TyA Tryz.prog 33 false := ⟨_, Tryz.underlying33, rfl⟩
instance : TyN Tryz.prog 33 1 24 (.slice none 0 0) := tyn_of (by kernel_rfl)
instance : TyD Tryz.prog 34 (.int .i64) := ⟨Tryz.underlying34⟩
instance : TyA Tryz.prog 34 false := ⟨_, Tryz.underlying34, rfl⟩
instance : TyN Tryz.prog 34 1 8 (.int .i64 0) := tyn_of (by kernel_rfl)
instance : TyA Tryz.prog 36 false := ⟨_, Tryz.underlying36, rfl⟩
instance : TyN Tryz.prog 36 1 8 (.nilFunc) := tyn_of (by kernel_rfl)
instance : TyD Tryz.prog 37 (.int .u32) := ⟨Tryz.underlying37⟩
instance : TyA Tryz.prog 37 false := ⟨_, Tryz.underlying37, rfl⟩
instance : TyN Tryz.prog 37 1 4 (.int .u32 0) := tyn_of (by kernel_rfl)
instance : TyA Tryz.prog 38 true := ⟨_, Tryz.underlying38, rfl⟩
instance : TyN Tryz.prog 38 2 16 (.agg #[.int .u32 0, .int .i64 0]) := tyn_of (by kernel_rfl)
instance : TyF Tryz.prog 38 0 0 37 := ⟨_, _, Tryz.underlying38, rfl, rfl, rfl⟩
instance : TyF Tryz.prog 38 1 1 3 := ⟨_, _, Tryz.underlying38, rfl, rfl, rfl⟩
instance : EqS Tryz.prog 38 2 := ⟨by kernel_rfl, by kernel_rfl, by kernel_rfl, by kernel_rfl⟩
instance : TyB Tryz.prog 38 [(0, 1), (1, 1)] := ⟨_, Tryz.underlying38, fun w => by kernel_rfl⟩
instance : TyA Tryz.prog 39 true := ⟨_, Tryz.underlying39, rfl⟩
instance : TyN Tryz.prog 39 2 16 (.agg #[.int .u32 0, .int .i64 0]) := tyn_of (by kernel_rfl)
instance : TyF Tryz.prog 39 0 0 37 := ⟨_, _, Tryz.underlying39, rfl, rfl, rfl⟩
instance : TyF Tryz.prog 39 1 1 3 := ⟨_, _, Tryz.underlying39, rfl, rfl, rfl⟩
instance : EqS Tryz.prog 39 2 := ⟨by kernel_rfl, by kernel_rfl, by kernel_rfl, by kernel_rfl⟩
instance : TyB Tryz.prog 39 [(0, 1), (1, 1)] := ⟨_, Tryz.underlying39, fun w => by kernel_rfl⟩
instance : TyA Tryz.prog 40 true := ⟨_, Tryz.underlying40, rfl⟩
instance : TyN Tryz.prog 40 9 88 (.agg #[.int .u32 0, .int .i64 0, .int .i64 0, .int .u32 0, .int .i64 0, .bool false, .int .i64 0, .int .i64 0, .slice none 0 0]) := tyn_of (by kernel_rfl)
instance : TyF Tryz.prog 40 0 0 39 := ⟨_, _, Tryz.underlying40, rfl, rfl, rfl⟩
instance : TyF Tryz.prog 40 1 2 3 := ⟨_, _, Tryz.underlying40, rfl, rfl, rfl⟩
instance : TyF Tryz.prog 40 2 3 27 := ⟨_, _, Tryz.underlying40, rfl, rfl, rfl⟩
instance : TyF Tryz.prog 40 3 4 3 := ⟨_, _, Tryz.underlying40, rfl, rfl, rfl⟩
instance : TyF Tryz.prog 40 4 5 4 := ⟨_, _, Tryz.underlying40, rfl, rfl, rfl⟩
instance : TyF Tryz.prog 40 5 6 3 := ⟨_, _, Tryz.underlying40, rfl, rfl, rfl⟩
instance : TyF Tryz.prog 40 6 7 3 := ⟨_, _, Tryz.underlying40, rfl, rfl, rfl⟩
instance : TyF Tryz.prog 40 7 8 22 := ⟨_, _, Tryz.underlying40, rfl, rfl, rfl⟩
instance : TyB Tryz.prog 40 [(0, 2), (2, 1), (3, 1), (4, 1), (5, 1), (6, 1), (7, 1), (8, 1)] := ⟨_, Tryz.underlying40, fun w => by kernel_rfl⟩
instance : TyA Tryz.prog 41 true := ⟨_, Tryz.underlying41, rfl⟩
instance : TyN Tryz.prog 41 9 88 (.agg #[.int .u32 0, .int .i64 0, .int .i64 0, .int .u32 0, .int .i64 0, .bool false, .int .i64 0, .int .i64 0, .slice none 0 0]) := tyn_of (by kernel_rfl)
instance : TyF Tryz.prog 41 0 0 39 := ⟨_, _, Tryz.underlying41, rfl, rfl, rfl⟩
instance : TyF Tryz.prog 41 1 2 3 := ⟨_, _, Tryz.underlying41, rfl, rfl, rfl⟩
instance : TyF Tryz.prog 41 2 3 27 := ⟨_, _, Tryz.underlying41, rfl, rfl, rfl⟩
instance : TyF Tryz.prog 41 3 4 3 := ⟨_, _, Tryz.underlying41, rfl, rfl, rfl⟩
instance : TyF Tryz.prog 41 4 5 4 := ⟨_, _, Tryz.underlying41, rfl, rfl, rfl⟩
instance : TyF Tryz.prog 41 5 6 3 := ⟨_, _, Tryz.underlying41, rfl, rfl, rfl⟩
instance : TyF Tryz.prog 41 6 7 3 := ⟨_, _, Tryz.underlying41, rfl, rfl, rfl⟩
instance : TyF Tryz.prog 41 7 8 22 := ⟨_, _, Tryz.underlying41, rfl, rfl, rfl⟩
instance : TyB Tryz.prog 41 [(0, 2), (2, 1), (3, 1), (4, 1), (5, 1), (6, 1), (7, 1), (8, 1)] := ⟨_, Tryz.underlying41, fun w => by kernel_rfl⟩
instance : TyA Tryz.prog 42 false := ⟨_, Tryz.underlying42, rfl⟩
instance : TyN Tryz.prog 42 1 8 (.nilFunc) := tyn_of (by kernel_rfl)
instance : TyA Tryz.prog 43 true := ⟨_, Tryz.underlying43, rfl⟩
instance : TyN Tryz.prog 43 3 16 (.agg #[.int .i64 0, .int .u32 0, .int .u32 0]) := tyn_of (by kernel_rfl)
instance : TyF Tryz.prog 43 0 0 3 := ⟨_, _, Tryz.underlying43, rfl, rfl, rfl⟩
instance : TyF Tryz.prog 43 1 1 37 := ⟨_, _, Tryz.underlying43, rfl, rfl, rfl⟩
instance : TyF Tryz.prog 43 2 2 27 := ⟨_, _, Tryz.underlying43, rfl, rfl, rfl⟩
instance : EqS Tryz.prog 43 3 := ⟨by kernel_rfl, by kernel_rfl, by kernel_rfl, by kernel_rfl⟩
instance : TyB Tryz.prog 43 [(0, 1), (1, 1), (2, 1)] := ⟨_, Tryz.underlying43, fun w => by kernel_rfl⟩
instance : TyA Tryz.prog 44 true := ⟨_, Tryz.underlying44, rfl⟩
instance : TyN Tryz.prog 44 3 16 (.agg #[.int .i64 0, .int .u32 0, .int .u32 0]) := tyn_of (by kernel_rfl)
instance : TyF Tryz.prog 44 0 0 3 := ⟨_, _, Tryz.underlying44, rfl, rfl, rfl⟩
instance : TyF Tryz.prog 44 1 1 37 := ⟨_, _, Tryz.underlying44, rfl, rfl, rfl⟩
instance : TyF Tryz.prog 44 2 2 27 := ⟨_, _, Tryz.underlying44, rfl, rfl, rfl⟩
instance : EqS Tryz.prog 44 3 := ⟨by kernel_rfl, by kernel_rfl, by kernel_rfl, by kernel_rfl⟩
instance : TyB Tryz.prog 44 [(0, 1), (1, 1), (2, 1)] := ⟨_, Tryz.underlying44, fun w => by kernel_rfl⟩
instance : TyA Tryz.prog 45 true := ⟨_, Tryz.underlying45, rfl⟩
instance : TyN Tryz.prog 45 9 64 (.agg #[.int .i64 0, .int .u32 0, .int .i64 0, .int .u32 0, .int .u32 0, .int .i64 0, .int .i64 0, .int .i64 0, .int .i64 0]) := tyn_of (by kernel_rfl)
instance : TyF Tryz.prog 45 0 0 3 := ⟨_, _, Tryz.underlying45, rfl, rfl, rfl⟩
instance : TyF Tryz.prog 45 1 1 39 := ⟨_, _, Tryz.underlying45, rfl, rfl, rfl⟩
instance : TyF Tryz.prog 45 2 3 37 := ⟨_, _, Tryz.underlying45, rfl, rfl, rfl⟩
instance : TyF Tryz.prog 45 3 4 27 := ⟨_, _, Tryz.underlying45, rfl, rfl, rfl⟩
instance : TyF Tryz.prog 45 4 5 3 := ⟨_, _, Tryz.underlying45, rfl, rfl, rfl⟩
instance : TyF Tryz.prog 45 5 6 3 := ⟨_, _, Tryz.underlying45, rfl, rfl, rfl⟩
instance : TyF Tryz.prog 45 6 7 3 := ⟨_, _, Tryz.underlying45, rfl, rfl, rfl⟩
instance : TyF Tryz.prog 45 7 8 3 := ⟨_, _, Tryz.underlying45, rfl, rfl, rfl⟩
instance : TyB Tryz.prog 45 [(0, 1), (1, 2), (3, 1), (4, 1), (5, 1), (6, 1), (7, 1), (8, 1)] := ⟨_, Tryz.underlying45, fun w => by kernel_rfl⟩
instance : TyA Tryz.prog 46 true := ⟨_, Tryz.underlying46, rfl⟩
instance : TyN Tryz.prog 46 9 64 (.agg #[.int .i64 0, .int .u32 0, .int .i64 0, .int .u32 0, .int .u32 0, .int .i64 0, .int .i64 0, .int .i64 0, .int .i64 0]) := tyn_of (by kernel_rfl)
instance : TyF Tryz.prog 46 0 0 3 := ⟨_, _, Tryz.underlying46, rfl, rfl, rfl⟩
instance : TyF Tryz.prog 46 1 1 39 := ⟨_, _, Tryz.underlying46, rfl, rfl, rfl⟩
instance : TyF Tryz.prog 46 2 3 37 := ⟨_, _, Tryz.underlying46, rfl, rfl, rfl⟩
instance : TyF Tryz.prog 46 3 4 27 := ⟨_, _, Tryz.underlying46, rfl, rfl, rfl⟩
instance : TyF Tryz.prog 46 4 5 3 := ⟨_, _, Tryz.underlying46, rfl, rfl, rfl⟩
instance : TyF Tryz.prog 46 5 6 3 := ⟨_, _, Tryz.underlying46, rfl, rfl, rfl⟩
instance : TyF Tryz.prog 46 6 7 3 := ⟨_, _, Tryz.underlying46, rfl, rfl, rfl⟩
instance : TyF Tryz.prog 46 7 8 3 := ⟨_, _, Tryz.underlying46, rfl, rfl, rfl⟩
instance : TyB Tryz.prog 46 [(0, 1), (1, 2), (3, 1), (4, 1), (5, 1), (6, 1), (7, 1), (8, 1)] := ⟨_, Tryz.underlying46, fun w => by kernel_rfl⟩
instance : TyD Tryz.prog 47 (.slice 67) := ⟨Tryz.underlying47⟩
instance : TyA Tryz.prog 47 false := ⟨_, Tryz.underlying47, rfl⟩
instance : TyN Tryz.prog 47 1 24 (.slice none 0 0) := tyn_of (by kernel_rfl)
instance : TyA Tryz.prog 48 true := ⟨_, Tryz.underlying48, rfl⟩
instance : TyN Tryz.prog 48 15 120 (.agg #[.int .i64 0, .int .u32 0, .int .i64 0, .int .u32 0, .int .u32 0, .int .i64 0, .int .i64 0, .int .i64 0, .int .i64 0, .bool false, .int .u32 0, .int .u32 0, .int .i64 0, .int .i64 0, .slice none 0 0]) := tyn_of (by kernel_rfl)
instance : TyF Tryz.prog 48 0 0 46 := ⟨_, _, Tryz.underlying48, rfl, rfl, rfl⟩
instance : TyF Tryz.prog 48 1 9 4 := ⟨_, _, Tryz.underlying48, rfl, rfl, rfl⟩
instance : TyF Tryz.prog 48 2 10 27 := ⟨_, _, Tryz.underlying48, rfl, rfl, rfl⟩
instance : TyF Tryz.prog 48 3 11 27 := ⟨_, _, Tryz.underlying48, rfl, rfl, rfl⟩
instance : TyF Tryz.prog 48 4 12 3 := ⟨_, _, Tryz.underlying48, rfl, rfl, rfl⟩
instance : TyF Tryz.prog 48 5 13 3 := ⟨_, _, Tryz.underlying48, rfl, rfl, rfl⟩
instance : TyF Tryz.prog 48 6 14 47 := ⟨_, _, Tryz.underlying48, rfl, rfl, rfl⟩
instance : TyB Tryz.prog 48 [(0, 9), (9, 1), (10, 1), (11, 1), (12, 1), (13, 1), (14, 1)] := ⟨_, Tryz.underlying48, fun w => by kernel_rfl⟩
instance : TyA Tryz.prog 49 true := ⟨_, Tryz.underlying49, rfl⟩
instance : TyN Tryz.prog 49 15 120 (.agg #[.int .i64 0, .int .u32 0, .int .i64 0, .int .u32 0, .int .u32 0, .int .i64 0, .int .i64 0, .int .i64 0, .int .i64 0, .bool false, .int .u32 0, .int .u32 0, .int .i64 0, .int .i64 0, .slice none 0 0]) := tyn_of (by kernel_rfl)
instance : TyF Tryz.prog 49 0 0 46 := ⟨_, _, Tryz.underlying49, rfl, rfl, rfl⟩
instance : TyF Tryz.prog 49 1 9 4 := ⟨_, _, Tryz.underlying49, rfl, rfl, rfl⟩
instance : TyF Tryz.prog 49 2 10 27 := ⟨_, _, Tryz.underlying49, rfl, rfl, rfl⟩
instance : TyF Tryz.prog 49 3 11 27 := ⟨_, _, Tryz.underlying49, rfl, rfl, rfl⟩
instance : TyF Tryz.prog 49 4 12 3 := ⟨_, _, Tryz.underlying49, rfl, rfl, rfl⟩
instance : TyF Tryz.prog 49 5 13 3 := ⟨_, _, Tryz.underlying49, rfl, rfl, rfl⟩
instance : TyF Tryz.prog 49 6 14 47 := ⟨_, _, Tryz.underlying49, rfl, rfl, rfl⟩
instance : TyB Tryz.prog 49 [(0, 9), (9, 1), (10, 1), (11, 1), (12, 1), (13, 1), (14, 1)] := ⟨_, Tryz.underlying49, fun w => by kernel_rfl⟩
instance : TyA Tryz.prog 50 false := ⟨_, Tryz.underlying50, rfl⟩
instance : TyN Tryz.prog 50 1 8 (.nilFunc) := tyn_of (by kernel_rfl)
instance : TyA Tryz.prog 51 false := ⟨_, Tryz.underlying51, rfl⟩
instance : TyN Tryz.prog 51 1 8 (.nilFunc) := tyn_of (by kernel_rfl)
instance : TyA Tryz.prog 52 false := ⟨_, Tryz.underlying52, rfl⟩
instance : TyN Tryz.prog 52 1 8 (.nilFunc) := tyn_of (by kernel_rfl)
instance : TyA Tryz.prog 53 false := ⟨_, Tryz.underlying53, rfl⟩
instance : TyN Tryz.prog 53 1 8 (.nilFunc) := tyn_of (by kernel_rfl)
instance : TyA Tryz.prog 54 false := ⟨_, Tryz.underlying54, rfl⟩
instance : TyN Tryz.prog 54 1 8 (.nilFunc) := tyn_of (by kernel_rfl)
instance : TyA Tryz.prog 55 false := ⟨_, Tryz.underlying55, rfl⟩
instance : TyN Tryz.prog 55 1 8 (.nilFunc) := tyn_of (by kernel_rfl)
instance : TyA Tryz.prog 56 true := ⟨_, Tryz.underlying56, rfl⟩
instance : TyN Tryz.prog 56 7 56 (.agg #[.int .i64 0, .int .u32 0, .int .i64 0, .int .u32 0, .int .i64 0, .int .i64 0, .int .i64 0]) := tyn_of (by kernel_rfl)
instance : TyF Tryz.prog 56 0 0 3 := ⟨_, _, Tryz.underlying56, rfl, rfl, rfl⟩
instance : TyF Tryz.prog 56 1 1 27 := ⟨_, _, Tryz.underlying56, rfl, rfl, rfl⟩
instance : TyF Tryz.prog 56 2 2 3 := ⟨_, _, Tryz.underlying56, rfl, rfl, rfl⟩
instance : TyF Tryz.prog 56 3 3 27 := ⟨_, _, Tryz.underlying56, rfl, rfl, rfl⟩
instance : TyF Tryz.prog 56 4 4 3 := ⟨_, _, Tryz.underlying56, rfl, rfl, rfl⟩
instance : TyF Tryz.prog 56 5 5 3 := ⟨_, _, Tryz.underlying56, rfl, rfl, rfl⟩
instance : TyF Tryz.prog 56 6 6 3 := ⟨_, _, Tryz.underlying56, rfl, rfl, rfl⟩
instance : EqS Tryz.prog 56 7 := ⟨by kernel_rfl, by kernel_rfl, by kernel_rfl, by kernel_rfl⟩
instance : TyB Tryz.prog 56 [(0, 1), (1, 1), (2, 1), (3, 1), (4, 1), (5, 1), (6, 1)] := ⟨_, Tryz.underlying56, fun w => by kernel_rfl⟩
instance : TyA Tryz.prog 57 true := ⟨_, Tryz.underlying57, rfl⟩
instance : TyN Tryz.prog 57 7 56 (.agg #[.int .i64 0, .int .u32 0, .int .i64 0, .int .u32 0, .int .i64 0, .int .i64 0, .int .i64 0]) := tyn_of (by kernel_rfl)
instance : TyF Tryz.prog 57 0 0 3 := ⟨_, _, Tryz.underlying57, rfl, rfl, rfl⟩
instance : TyF Tryz.prog 57 1 1 27 := ⟨_, _, Tryz.underlying57, rfl, rfl, rfl⟩
instance : TyF Tryz.prog 57 2 2 3 := ⟨_, _, Tryz.underlying57, rfl, rfl, rfl⟩
instance : TyF Tryz.prog 57 3 3 27 := ⟨_, _, Tryz.underlying57, rfl, rfl, rfl⟩
instance : TyF Tryz.prog 57 4 4 3 := ⟨_, _, Tryz.underlying57, rfl, rfl, rfl⟩
instance : TyF Tryz.prog 57 5 5 3 := ⟨_, _, Tryz.underlying57, rfl, rfl, rfl⟩
instance : TyF Tryz.prog 57 6 6 3 := ⟨_, _, Tryz.underlying57, rfl, rfl, rfl⟩
instance : EqS Tryz.prog 57 7 := ⟨by kernel_rfl, by kernel_rfl, by kernel_rfl, by kernel_rfl⟩
instance : TyB Tryz.prog 57 [(0, 1), (1, 1), (2, 1), (3, 1), (4, 1), (5, 1), (6, 1)] := ⟨_, Tryz.underlying57, fun w => by kernel_rfl⟩
instance : TyD Tryz.prog 58 (.slice 64) := ⟨Tryz.underlying58⟩
instance : TyA Tryz.prog 58 false := ⟨_, Tryz.underlying58, rfl⟩
instance : TyN Tryz.prog 58 1 24 (.slice none 0 0) := tyn_of (by kernel_rfl)
instance : TyD Tryz.prog 59 (.slice 27) := ⟨Tryz.underlying59⟩
instance : TyA Tryz.prog 59 false := ⟨_, Tryz.underlying59, rfl⟩
instance : TyN Tryz.prog 59 1 24 (.slice none 0 0) := tyn_of (by kernel_rfl)
instance : TyA Tryz.prog 60 true := ⟨_, Tryz.underlying60, rfl⟩
instance : TyN Tryz.prog 60 15 136 (.agg #[.int .i64 0, .int .u32 0, .int .i64 0, .int .u32 0, .int .i64 0, .int .i64 0, .int .i64 0, .bool false, .bool false, .slice none 0 0, .slice none 0 0, .int .i64 0, .bool false, .int .u32 0, .int .i64 0]) := tyn_of (by kernel_rfl)
instance : TyF Tryz.prog 60 0 0 57 := ⟨_, _, Tryz.underlying60, rfl, rfl, rfl⟩
instance : TyF Tryz.prog 60 1 7 4 := ⟨_, _, Tryz.underlying60, rfl, rfl, rfl⟩
instance : TyF Tryz.prog 60 2 8 4 := ⟨_, _, Tryz.underlying60, rfl, rfl, rfl⟩
instance : TyF Tryz.prog 60 3 9 58 := ⟨_, _, Tryz.underlying60, rfl, rfl, rfl⟩
instance : TyF Tryz.prog 60 4 10 59 := ⟨_, _, Tryz.underlying60, rfl, rfl, rfl⟩
instance : TyF Tryz.prog 60 5 11 3 := ⟨_, _, Tryz.underlying60, rfl, rfl, rfl⟩
instance : TyF Tryz.prog 60 6 12 4 := ⟨_, _, Tryz.underlying60, rfl, rfl, rfl⟩
instance : TyF Tryz.prog 60 7 13 37 := ⟨_, _, Tryz.underlying60, rfl, rfl, rfl⟩
instance : TyF Tryz.prog 60 8 14 3 := ⟨_, _, Tryz.underlying60, rfl, rfl, rfl⟩
instance : TyB Tryz.prog 60 [(0, 7), (7, 1), (8, 1), (9, 1), (10, 1), (11, 1), (12, 1), (13, 1), (14, 1)] := ⟨_, Tryz.underlying60, fun w => by kernel_rfl⟩
instance : TyA Tryz.prog 61 true := ⟨_, Tryz.underlying61, rfl⟩
instance : TyN Tryz.prog 61 15 136 (.agg #[.int .i64 0, .int .u32 0, .int .i64 0, .int .u32 0, .int .i64 0, .int .i64 0, .int .i64 0, .bool false, .bool false, .slice none 0 0, .slice none 0 0, .int .i64 0, .bool false, .int .u32 0, .int .i64 0]) := tyn_of (by kernel_rfl)
instance : TyF Tryz.prog 61 0 0 57 := ⟨_, _, Tryz.underlying61, rfl, rfl, rfl⟩
instance : TyF Tryz.prog 61 1 7 4 := ⟨_, _, Tryz.underlying61, rfl, rfl, rfl⟩
instance : TyF Tryz.prog 61 2 8 4 := ⟨_, _, Tryz.underlying61, rfl, rfl, rfl⟩
instance : TyF Tryz.prog 61 3 9 58 := ⟨_, _, Tryz.underlying61, rfl, rfl, rfl⟩
instance : TyF Tryz.prog 61 4 10 59 := ⟨_, _, Tryz.underlying61, rfl, rfl, rfl⟩
instance : TyF Tryz.prog 61 5 11 3 := ⟨_, _, Tryz.underlying61, rfl, rfl, rfl⟩
instance : TyF Tryz.prog 61 6 12 4 := ⟨_, _, Tryz.underlying61, rfl, rfl, rfl⟩
instance : TyF Tryz.prog 61 7 13 37 := ⟨_, _, Tryz.underlying61, rfl, rfl, rfl⟩
instance : TyF Tryz.prog 61 8 14 3 := ⟨_, _, Tryz.underlying61, rfl, rfl, rfl⟩
instance : TyB Tryz.prog 61 [(0, 7), (7, 1), (8, 1), (9, 1), (10, 1), (11, 1), (12, 1), (13, 1), (14, 1)] := ⟨_, Tryz.underlying61, fun w => by kernel_rfl⟩
instance : TyA Tryz.prog 62 false := ⟨_, Tryz.underlying62, rfl⟩
instance : TyN Tryz.prog 62 1 8 (.nilFunc) := tyn_of (by kernel_rfl)
instance : TyA Tryz.prog 63 true := ⟨_, Tryz.underlying63, rfl⟩
instance : TyN Tryz.prog 63 4 24 (.agg #[.int .i64 0, .int .u32 0, .int .u32 0, .int .i64 0]) := tyn_of (by kernel_rfl)
instance : TyF Tryz.prog 63 0 0 3 := ⟨_, _, Tryz.underlying63, rfl, rfl, rfl⟩
instance : TyF Tryz.prog 63 1 1 27 := ⟨_, _, Tryz.underlying63, rfl, rfl, rfl⟩
instance : TyF Tryz.prog 63 2 2 27 := ⟨_, _, Tryz.underlying63, rfl, rfl, rfl⟩
instance : TyF Tryz.prog 63 3 3 3 := ⟨_, _, Tryz.underlying63, rfl, rfl, rfl⟩
instance : EqS Tryz.prog 63 4 := ⟨by kernel_rfl, by kernel_rfl, by kernel_rfl, by kernel_rfl⟩
instance : TyB Tryz.prog 63 [(0, 1), (1, 1), (2, 1), (3, 1)] := ⟨_, Tryz.underlying63, fun w => by kernel_rfl⟩
instance : TyA Tryz.prog 64 true := ⟨_, Tryz.underlying64, rfl⟩
instance : TyN Tryz.prog 64 4 24 (.agg #[.int .i64 0, .int .u32 0, .int .u32 0, .int .i64 0]) := tyn_of (by kernel_rfl)
instance : TyF Tryz.prog 64 0 0 3 := ⟨_, _, Tryz.underlying64, rfl, rfl, rfl⟩
instance : TyF Tryz.prog 64 1 1 27 := ⟨_, _, Tryz.underlying64, rfl, rfl, rfl⟩
instance : TyF Tryz.prog 64 2 2 27 := ⟨_, _, Tryz.underlying64, rfl, rfl, rfl⟩
instance : TyF Tryz.prog 64 3 3 3 := ⟨_, _, Tryz.underlying64, rfl, rfl, rfl⟩
instance : EqS Tryz.prog 64 4 := ⟨by kernel_rfl, by kernel_rfl, by kernel_rfl, by kernel_rfl⟩
instance : TyB Tryz.prog 64 [(0, 1), (1, 1), (2, 1), (3, 1)] := ⟨_, Tryz.underlying64, fun w => by kernel_rfl⟩
instance : TyD Tryz.prog 65 (.slice 57) := ⟨Tryz.underlying65⟩
instance : TyA Tryz.prog 65 false := ⟨_, Tryz.underlying65, rfl⟩
instance : TyN Tryz.prog 65 1 24 (.slice none 0 0) := tyn_of (by kernel_rfl)
instance : TyA Tryz.prog 66 true := ⟨_, Tryz.underlying66, rfl⟩
instance : TyN Tryz.prog 66 15 168 (.agg #[.int .u32 0, .int .u32 0, .int .i64 0, .int .u32 0, .int .u32 0, .int .i64 0, .int .i64 0, .bool false, .int .i64 0, .slice none 0 0, .slice none 0 0, .bool false, .slice none 0 0, .slice none 0 0, .int .i64 0]) := tyn_of (by kernel_rfl)
instance : TyF Tryz.prog 66 0 0 27 := ⟨_, _, Tryz.underlying66, rfl, rfl, rfl⟩
instance : TyF Tryz.prog 66 1 1 37 := ⟨_, _, Tryz.underlying66, rfl, rfl, rfl⟩
instance : TyF Tryz.prog 66 2 2 3 := ⟨_, _, Tryz.underlying66, rfl, rfl, rfl⟩
instance : TyF Tryz.prog 66 3 3 27 := ⟨_, _, Tryz.underlying66, rfl, rfl, rfl⟩
instance : TyF Tryz.prog 66 4 4 27 := ⟨_, _, Tryz.underlying66, rfl, rfl, rfl⟩
instance : TyF Tryz.prog 66 5 5 3 := ⟨_, _, Tryz.underlying66, rfl, rfl, rfl⟩
instance : TyF Tryz.prog 66 6 6 3 := ⟨_, _, Tryz.underlying66, rfl, rfl, rfl⟩
instance : TyF Tryz.prog 66 7 7 4 := ⟨_, _, Tryz.underlying66, rfl, rfl, rfl⟩
instance : TyF Tryz.prog 66 8 8 3 := ⟨_, _, Tryz.underlying66, rfl, rfl, rfl⟩
instance : TyF Tryz.prog 66 9 9 65 := ⟨_, _, Tryz.underlying66, rfl, rfl, rfl⟩
instance : TyF Tryz.prog 66 10 10 65 := ⟨_, _, Tryz.underlying66, rfl, rfl, rfl⟩
instance : TyF Tryz.prog 66 11 11 4 := ⟨_, _, Tryz.underlying66, rfl, rfl, rfl⟩
instance : TyF Tryz.prog 66 12 12 65 := ⟨_, _, Tryz.underlying66, rfl, rfl, rfl⟩
instance : TyF Tryz.prog 66 13 13 65 := ⟨_, _, Tryz.underlying66, rfl, rfl, rfl⟩
instance : TyF Tryz.prog 66 14 14 3 := ⟨_, _, Tryz.underlying66, rfl, rfl, rfl⟩
instance : TyB Tryz.prog 66 [(0, 1), (1, 1), (2, 1), (3, 1), (4, 1), (5, 1), (6, 1), (7, 1), (8, 1), (9, 1), (10, 1), (11, 1), (12, 1), (13, 1), (14, 1)] := ⟨_, Tryz.underlying66, fun w => by kernel_rfl⟩
instance : TyA Tryz.prog 67 true := ⟨_, Tryz.underlying67, rfl⟩
instance : TyN Tryz.prog 67 15 168 (.agg #[.int .u32 0, .int .u32 0, .int .i64 0, .int .u32 0, .int .u32 0, .int .i64 0, .int .i64 0, .bool false, .int .i64 0, .slice none 0 0, .slice none 0 0, .bool false, .slice none 0 0, .slice none 0 0, .int .i64 0]) := tyn_of (by kernel_rfl)
instance : TyF Tryz.prog 67 0 0 27 := ⟨_, _, Tryz.underlying67, rfl, rfl, rfl⟩
instance : TyF Tryz.prog 67 1 1 37 := ⟨_, _, Tryz.underlying67, rfl, rfl, rfl⟩
instance : TyF Tryz.prog 67 2 2 3 := ⟨_, _, Tryz.underlying67, rfl, rfl, rfl⟩
instance : TyF Tryz.prog 67 3 3 27 := ⟨_, _, Tryz.underlying67, rfl, rfl, rfl⟩
instance : TyF Tryz.prog 67 4 4 27 := ⟨_, _, Tryz.underlying67, rfl, rfl, rfl⟩
instance : TyF Tryz.prog 67 5 5 3 := ⟨_, _, Tryz.underlying67, rfl, rfl, rfl⟩
instance : TyF Tryz.prog 67 6 6 3 := ⟨_, _, Tryz.underlying67, rfl, rfl, rfl⟩
instance : TyF Tryz.prog 67 7 7 4 := ⟨_, _, Tryz.underlying67, rfl, rfl, rfl⟩
instance : TyF Tryz.prog 67 8 8 3 := ⟨_, _, Tryz.underlying67, rfl, rfl, rfl⟩
instance : TyF Tryz.prog 67 9 9 65 := ⟨_, _, Tryz.underlying67, rfl, rfl, rfl⟩
instance : TyF Tryz.prog 67 10 10 65 := ⟨_, _, Tryz.underlying67, rfl, rfl, rfl⟩
instance : TyF Tryz.prog 67 11 11 4 := ⟨_, _, Tryz.underlying67, rfl, rfl, rfl⟩
instance : TyF Tryz.prog 67 12 12 65 := ⟨_, _, Tryz.underlying67, rfl, rfl, rfl⟩
instance : TyF Tryz.prog 67 13 13 65 := ⟨_, _, Tryz.underlying67, rfl, rfl, rfl⟩
instance : TyF Tryz.prog 67 14 14 3 := ⟨_, _, Tryz.underlying67, rfl, rfl, rfl⟩
instance : TyB Tryz.prog 67 [(0, 1), (1, 1), (2, 1), (3, 1), (4, 1), (5, 1), (6, 1), (7, 1), (8, 1), (9, 1), (10, 1), (11, 1), (12, 1), (13, 1), (14, 1)] := ⟨_, Tryz.underlying67, fun w => by kernel_rfl⟩
instance : TyA Tryz.prog 68 false := ⟨_, Tryz.underlying68, rfl⟩
instance : TyN Tryz.prog 68 1 8 (.nilFunc) := tyn_of (by kernel_rfl)
instance : TyA Tryz.prog 69 false := ⟨_, Tryz.underlying69, rfl⟩
instance : TyN Tryz.prog 69 1 8 (.nilFunc) := tyn_of (by kernel_rfl)
instance : TyD Tryz.prog 70 (.slice 157) := ⟨Tryz.underlying70⟩
instance : TyA Tryz.prog 70 false := ⟨_, Tryz.underlying70, rfl⟩
instance : TyN Tryz.prog 70 1 24 (.slice none 0 0) := tyn_of (by kernel_rfl)
instance : TyA Tryz.prog 71 true := ⟨_, Tryz.underlying71, rfl⟩
instance : TyN Tryz.prog 71 3 40 (.agg #[.int .i64 0, .int .i64 0, .slice none 0 0]) := tyn_of (by kernel_rfl)
instance : TyF Tryz.prog 71 0 0 3 := ⟨_, _, Tryz.underlying71, rfl, rfl, rfl⟩
instance : TyF Tryz.prog 71 1 1 3 := ⟨_, _, Tryz.underlying71, rfl, rfl, rfl⟩
instance : TyF Tryz.prog 71 2 2 70 := ⟨_, _, Tryz.underlying71, rfl, rfl, rfl⟩
instance : TyB Tryz.prog 71 [(0, 1), (1, 1), (2, 1)] := ⟨_, Tryz.underlying71, fun w => by kernel_rfl⟩
instance : TyA Tryz.prog 72 true := ⟨_, Tryz.underlying72, rfl⟩
instance : TyN Tryz.prog 72 3 40 (.agg #[.int .i64 0, .int .i64 0, .slice none 0 0]) := tyn_of (by kernel_rfl)
instance : TyF Tryz.prog 72 0 0 3 := ⟨_, _, Tryz.underlying72, rfl, rfl, rfl⟩
instance : TyF Tryz.prog 72 1 1 3 := ⟨_, _, Tryz.underlying72, rfl, rfl, rfl⟩
instance : TyF Tryz.prog 72 2 2 70 := ⟨_, _, Tryz.underlying72, rfl, rfl, rfl⟩
instance : TyB Tryz.prog 72 [(0, 1), (1, 1), (2, 1)] := ⟨_, Tryz.underlying72, fun w => by kernel_rfl⟩
instance : TyD Tryz.prog 73 (.slice 90) := ⟨Tryz.underlying73⟩
instance : TyA Tryz.prog 73 false := ⟨_, Tryz.underlying73, rfl⟩
instance : TyN Tryz.prog 73 1 24 (.slice none 0 0) := tyn_of (by kernel_rfl)
instance : TyA Tryz.prog 74 true := ⟨_, Tryz.underlying74, rfl⟩
instance : TyN Tryz.prog 74 5 88 (.agg #[.int .i64 0, .int .i64 0, .slice none 0 0, .slice none 0 0, .slice none 0 0]) := tyn_of (by kernel_rfl)
instance : TyF Tryz.prog 74 0 0 72 := ⟨_, _, Tryz.underlying74, rfl, rfl, rfl⟩
instance : TyF Tryz.prog 74 1 3 59 := ⟨_, _, Tryz.underlying74, rfl, rfl, rfl⟩
instance : TyF Tryz.prog 74 2 4 73 := ⟨_, _, Tryz.underlying74, rfl, rfl, rfl⟩
instance : TyB Tryz.prog 74 [(0, 3), (3, 1), (4, 1)] := ⟨_, Tryz.underlying74, fun w => by kernel_rfl⟩
instance : TyA Tryz.prog 75 true := ⟨_, Tryz.underlying75, rfl⟩
instance : TyN Tryz.prog 75 5 88 (.agg #[.int .i64 0, .int .i64 0, .slice none 0 0, .slice none 0 0, .slice none 0 0]) := tyn_of (by kernel_rfl)
instance : TyF Tryz.prog 75 0 0 72 := ⟨_, _, Tryz.underlying75, rfl, rfl, rfl⟩
instance : TyF Tryz.prog 75 1 3 59 := ⟨_, _, Tryz.underlying75, rfl, rfl, rfl⟩
instance : TyF Tryz.prog 75 2 4 73 := ⟨_, _, Tryz.underlying75, rfl, rfl, rfl⟩
instance : TyB Tryz.prog 75 [(0, 3), (3, 1), (4, 1)] := ⟨_, Tryz.underlying75, fun w => by kernel_rfl⟩
instance : TyD Tryz.prog 76 (.slice 3) := ⟨Tryz.underlying76⟩
instance : TyA Tryz.prog 76 false := ⟨_, Tryz.underlying76, rfl⟩
instance : TyN Tryz.prog 76 1 24 (.slice none 0 0) := tyn_of (by kernel_rfl)
instance : TyD Tryz.prog 77 (.slice 76) := ⟨Tryz.underlying77⟩
instance : TyA Tryz.prog 77 false := ⟨_, Tryz.underlying77, rfl⟩
instance : TyN Tryz.prog 77 1 24 (.slice none 0 0) := tyn_of (by kernel_rfl)
instance : TyA Tryz.prog 78 true := ⟨_, Tryz.underlying78, rfl⟩
instance : TyN Tryz.prog 78 4 80 (.agg #[.int .i64 0, .slice none 0 0, .slice none 0 0, .slice none 0 0]) := tyn_of (by kernel_rfl)
instance : TyF Tryz.prog 78 0 0 3 := ⟨_, _, Tryz.underlying78, rfl, rfl, rfl⟩
instance : TyF Tryz.prog 78 1 1 76 := ⟨_, _, Tryz.underlying78, rfl, rfl, rfl⟩
instance : TyF Tryz.prog 78 2 2 77 := ⟨_, _, Tryz.underlying78, rfl, rfl, rfl⟩
instance : TyF Tryz.prog 78 3 3 77 := ⟨_, _, Tryz.underlying78, rfl, rfl, rfl⟩
instance : TyB Tryz.prog 78 [(0, 1), (1, 1), (2, 1), (3, 1)] := ⟨_, Tryz.underlying78, fun w => by kernel_rfl⟩
instance : TyA Tryz.prog 79 true := ⟨_, Tryz.underlying79, rfl⟩
instance : TyN Tryz.prog 79 4 80 (.agg #[.int .i64 0, .slice none 0 0, .slice none 0 0, .slice none 0 0]) := tyn_of (by kernel_rfl)
instance : TyF Tryz.prog 79 0 0 3 := ⟨_, _, Tryz.underlying79, rfl, rfl, rfl⟩
instance : TyF Tryz.prog 79 1 1 76 := ⟨_, _, Tryz.underlying79, rfl, rfl, rfl⟩
instance : TyF Tryz.prog 79 2 2 77 := ⟨_, _, Tryz.underlying79, rfl, rfl, rfl⟩
instance : TyF Tryz.prog 79 3 3 77 := ⟨_, _, Tryz.underlying79, rfl, rfl, rfl⟩
instance : TyB Tryz.prog 79 [(0, 1), (1, 1), (2, 1), (3, 1)] := ⟨_, Tryz.underlying79, fun w => by kernel_rfl⟩
instance : TyA Tryz.prog 80 true := ⟨_, Tryz.underlying80, rfl⟩
instance : TyN Tryz.prog 80 10 192 (.agg #[.int .i64 0, .int .i64 0, .slice none 0 0, .slice none 0 0, .slice none 0 0, .int .i64 0, .slice none 0 0, .slice none 0 0, .slice none 0 0, .slice none 0 0]) := tyn_of (by kernel_rfl)
instance : TyF Tryz.prog 80 0 0 75 := ⟨_, _, Tryz.underlying80, rfl, rfl, rfl⟩
instance : TyF Tryz.prog 80 1 5 79 := ⟨_, _, Tryz.underlying80, rfl, rfl, rfl⟩
instance : TyF Tryz.prog 80 2 9 31 := ⟨_, _, Tryz.underlying80, rfl, rfl, rfl⟩
instance : TyB Tryz.prog 80 [(0, 5), (5, 4), (9, 1)] := ⟨_, Tryz.underlying80, fun w => by kernel_rfl⟩
instance : TyA Tryz.prog 81 true := ⟨_, Tryz.underlying81, rfl⟩
instance : TyN Tryz.prog 81 10 192 (.agg #[.int .i64 0, .int .i64 0, .slice none 0 0, .slice none 0 0, .slice none 0 0, .int .i64 0, .slice none 0 0, .slice none 0 0, .slice none 0 0, .slice none 0 0]) := tyn_of (by kernel_rfl)
instance : TyF Tryz.prog 81 0 0 75 := ⟨_, _, Tryz.underlying81, rfl, rfl, rfl⟩
instance : TyF Tryz.prog 81 1 5 79 := ⟨_, _, Tryz.underlying81, rfl, rfl, rfl⟩
instance : TyF Tryz.prog 81 2 9 31 := ⟨_, _, Tryz.underlying81, rfl, rfl, rfl⟩
instance : TyB Tryz.prog 81 [(0, 5), (5, 4), (9, 1)] := ⟨_, Tryz.underlying81, fun w => by kernel_rfl⟩
instance : TyA Tryz.prog 83 false := ⟨_, Tryz.underlying83, rfl⟩
instance : TyN Tryz.prog 83 1 8 (.nilFunc) := tyn_of (by kernel_rfl)
instance : TyD Tryz.prog 84 (.map 39 86) := ⟨Tryz.underlying84⟩
instance : TyA Tryz.prog 84 false := ⟨_, Tryz.underlying84, rfl⟩
instance : TyN Tryz.prog 84 1 8 (.map none) := tyn_of (by kernel_rfl)
instance : TyA Tryz.prog 85 true := ⟨_, Tryz.underlying85, rfl⟩
instance : TyN Tryz.prog 85 2 32 (.agg #[.int .i64 0, .slice none 0 0]) := tyn_of (by kernel_rfl)
instance : TyF Tryz.prog 85 0 0 3 := ⟨_, _, Tryz.underlying85, rfl, rfl, rfl⟩
instance : TyF Tryz.prog 85 1 1 22 := ⟨_, _, Tryz.underlying85, rfl, rfl, rfl⟩
instance : TyB Tryz.prog 85 [(0, 1), (1, 1)] := ⟨_, Tryz.underlying85, fun w => by kernel_rfl⟩
instance : TyA Tryz.prog 86 true := ⟨_, Tryz.underlying86, rfl⟩
instance : TyN Tryz.prog 86 2 32 (.agg #[.int .i64 0, .slice none 0 0]) := tyn_of (by kernel_rfl)
instance : TyF Tryz.prog 86 0 0 3 := ⟨_, _, Tryz.underlying86, rfl, rfl, rfl⟩
instance : TyF Tryz.prog 86 1 1 22 := ⟨_, _, Tryz.underlying86, rfl, rfl, rfl⟩
instance : TyB Tryz.prog 86 [(0, 1), (1, 1)] := ⟨_, Tryz.underlying86, fun w => by kernel_rfl⟩
instance : TyA Tryz.prog 88 false := ⟨_, Tryz.underlying88, rfl⟩
instance : TyN Tryz.prog 88 1 8 (.nilFunc) := tyn_of (by kernel_rfl)
instance : TyA Tryz.prog 89 true := ⟨_, Tryz.underlying89, rfl⟩
instance : TyN Tryz.prog 89 3 16 (.agg #[.int .u32 0, .int .u32 0, .int .i64 0]) := tyn_of (by kernel_rfl)
instance : TyF Tryz.prog 89 0 0 27 := ⟨_, _, Tryz.underlying89, rfl, rfl, rfl⟩
instance : TyF Tryz.prog 89 1 1 27 := ⟨_, _, Tryz.underlying89, rfl, rfl, rfl⟩
instance : TyF Tryz.prog 89 2 2 3 := ⟨_, _, Tryz.underlying89, rfl, rfl, rfl⟩
instance : EqS Tryz.prog 89 3 := ⟨by kernel_rfl, by kernel_rfl, by kernel_rfl, by kernel_rfl⟩
instance : TyB Tryz.prog 89 [(0, 1), (1, 1), (2, 1)] := ⟨_, Tryz.underlying89, fun w => by kernel_rfl⟩
instance : TyA Tryz.prog 90 true := ⟨_, Tryz.underlying90, rfl⟩
instance : TyN Tryz.prog 90 3 16 (.agg #[.int .u32 0, .int .u32 0, .int .i64 0]) := tyn_of (by kernel_rfl)
instance : TyF Tryz.prog 90 0 0 27 := ⟨_, _, Tryz.underlying90, rfl, rfl, rfl⟩
instance : TyF Tryz.prog 90 1 1 27 := ⟨_, _, Tryz.underlying90, rfl, rfl, rfl⟩
instance : TyF Tryz.prog 90 2 2 3 := ⟨_, _, Tryz.underlying90, rfl, rfl, rfl⟩
instance : EqS Tryz.prog 90 3 := ⟨by kernel_rfl, by kernel_rfl, by kernel_rfl, by kernel_rfl⟩
instance : TyB Tryz.prog 90 [(0, 1), (1, 1), (2, 1)] := ⟨_, Tryz.underlying90, fun w => by kernel_rfl⟩
instance : TyA Tryz.prog 92 false := ⟨_, Tryz.underlying92, rfl⟩
instance : TyN Tryz.prog 92 1 8 (.nilFunc) := tyn_of (by kernel_rfl)
instance : TyA Tryz.prog 93 false := ⟨_, Tryz.underlying93, rfl⟩
instance : TyN Tryz.prog 93 1 8 (.nilFunc) := tyn_of (by kernel_rfl)
instance : TyA Tryz.prog 94 false := ⟨_, Tryz.underlying94, rfl⟩
instance : TyN Tryz.prog 94 1 8 (.nilFunc) := tyn_of (by kernel_rfl)
instance : TyA Tryz.prog 95 false := ⟨_, Tryz.underlying95, rfl⟩
instance : TyN Tryz.prog 95 1 8 (.nilFunc) := tyn_of (by kernel_rfl)
instance : TyA Tryz.prog 96 false := ⟨_, Tryz.underlying96, rfl⟩
instance : TyN Tryz.prog 96 1 8 (.nilFunc) := tyn_of (by kernel_rfl)
instance : TyA Tryz.prog 97 false := ⟨_, Tryz.underlying97, rfl⟩
instance : TyN Tryz.prog 97 1 8 (.nilFunc) := tyn_of (by kernel_rfl)
instance : TyA Tryz.prog 98 false := ⟨_, Tryz.underlying98, rfl⟩
instance : TyN Tryz.prog 98 1 8 (.nilFunc) := tyn_of (by kernel_rfl)
instance : TyA Tryz.prog 99 false := ⟨_, Tryz.underlying99, rfl⟩
instance : TyN Tryz.prog 99 1 8 (.nilFunc) := tyn_of (by kernel_rfl)
instance : TyD Tryz.prog 100 (.slice 22) := ⟨Tryz.underlying100⟩
instance : TyA Tryz.prog 100 false := ⟨_, Tryz.underlying100, rfl⟩
instance : TyN Tryz.prog 100 1 24 (.slice none 0 0) := tyn_of (by kernel_rfl)
instance : TyA Tryz.prog 101 false := ⟨_, Tryz.underlying101, rfl⟩
instance : TyN Tryz.prog 101 1 8 (.nilFunc) := tyn_of (by kernel_rfl)
instance : TyA Tryz.prog 102 false := ⟨_, Tryz.underlying102, rfl⟩
instance : TyN Tryz.prog 102 1 8 (.nilFunc) := tyn_of (by kernel_rfl)
instance : TyA Tryz.prog 103 false := ⟨_, Tryz.underlying103, rfl⟩
instance : TyN Tryz.prog 103 1 8 (.nilFunc) := tyn_of (by kernel_rfl)
instance : TyD Tryz.prog 104 (.int .u64) := ⟨Tryz.underlying104⟩
instance : TyA Tryz.prog 104 false := ⟨_, Tryz.underlying104, rfl⟩
instance : TyN Tryz.prog 104 1 8 (.int .u64 0) := tyn_of (by kernel_rfl)
instance : TyA Tryz.prog 105 false := ⟨_, Tryz.underlying105, rfl⟩
instance : TyN Tryz.prog 105 1 8 (.nilFunc) := tyn_of (by kernel_rfl)
instance : TyA Tryz.prog 106 false := ⟨_, Tryz.underlying106, rfl⟩
instance : TyN Tryz.prog 106 1 8 (.nilFunc) := tyn_of (by kernel_rfl)
instance : TyA Tryz.prog 107 false := ⟨_, Tryz.underlying107, rfl⟩
instance : TyN Tryz.prog 107 1 8 (.nilFunc) := tyn_of (by kernel_rfl)
instance : TyA Tryz.prog 108 false := ⟨_, Tryz.underlying108, rfl⟩
instance : TyN Tryz.prog 108 1 8 (.nilFunc) := tyn_of (by kernel_rfl)
instance : TyA Tryz.prog 109 false := ⟨_, Tryz.underlying109, rfl⟩
instance : TyN Tryz.prog 109 1 8 (.nilFunc) := tyn_of (by kernel_rfl)
instance : TyA Tryz.prog 111 false := ⟨_, Tryz.underlying111, rfl⟩
instance : TyN Tryz.prog 111 1 8 (.nilFunc) := tyn_of (by kernel_rfl)
instance : TyA Tryz.prog 113 false := ⟨_, Tryz.underlying113, rfl⟩
instance : TyN Tryz.prog 113 1 8 (.nilFunc) := tyn_of (by kernel_rfl)
instance : TyA Tryz.prog 114 false := ⟨_, Tryz.underlying114, rfl⟩
instance : TyN Tryz.prog 114 1 8 (.nilFunc) := tyn_of (by kernel_rfl)
instance : TyA Tryz.prog 115 false := ⟨_, Tryz.underlying115, rfl⟩
instance : TyN Tryz.prog 115 1 8 (.nilFunc) := tyn_of (by kernel_rfl)
instance : TyA Tryz.prog 117 false := ⟨_, Tryz.underlying117, rfl⟩
instance : TyN Tryz.prog 117 1 8 (.nilFunc) := tyn_of (by kernel_rfl)
instance : TyA Tryz.prog 118 false := ⟨_, Tryz.underlying118, rfl⟩
instance : TyN Tryz.prog 118 1 8 (.nilFunc) := tyn_of (by kernel_rfl)
instance : TyA Tryz.prog 119 false := ⟨_, Tryz.underlying119, rfl⟩
instance : TyN Tryz.prog 119 1 8 (.nilFunc) := tyn_of (by kernel_rfl)
instance : TyA Tryz.prog 121 false := ⟨_, Tryz.underlying121, rfl⟩
instance : TyN Tryz.prog 121 1 8 (.nilFunc) := tyn_of (by kernel_rfl)
instance : TyA Tryz.prog 122 true := ⟨_, Tryz.underlying122, rfl⟩
instance : TyN Tryz.prog 122 4 32 (.agg #[.int .i64 0, .int .u32 0, .int .i64 0, .int .u32 0]) := tyn_of (by kernel_rfl)
instance : TyF Tryz.prog 122 0 0 3 := ⟨_, _, Tryz.underlying122, rfl, rfl, rfl⟩
instance : TyF Tryz.prog 122 1 1 27 := ⟨_, _, Tryz.underlying122, rfl, rfl, rfl⟩
instance : TyF Tryz.prog 122 2 2 3 := ⟨_, _, Tryz.underlying122, rfl, rfl, rfl⟩
instance : TyF Tryz.prog 122 3 3 27 := ⟨_, _, Tryz.underlying122, rfl, rfl, rfl⟩
instance : EqS Tryz.prog 122 4 := ⟨by kernel_rfl, by kernel_rfl, by kernel_rfl, by kernel_rfl⟩
instance : TyB Tryz.prog 122 [(0, 1), (1, 1), (2, 1), (3, 1)] := ⟨_, Tryz.underlying122, fun w => by kernel_rfl⟩
instance : TyA Tryz.prog 123 true := ⟨_, Tryz.underlying123, rfl⟩
instance : TyN Tryz.prog 123 4 32 (.agg #[.int .i64 0, .int .u32 0, .int .i64 0, .int .u32 0]) := tyn_of (by kernel_rfl)
instance : TyF Tryz.prog 123 0 0 3 := ⟨_, _, Tryz.underlying123, rfl, rfl, rfl⟩
instance : TyF Tryz.prog 123 1 1 27 := ⟨_, _, Tryz.underlying123, rfl, rfl, rfl⟩
instance : TyF Tryz.prog 123 2 2 3 := ⟨_, _, Tryz.underlying123, rfl, rfl, rfl⟩
instance : TyF Tryz.prog 123 3 3 27 := ⟨_, _, Tryz.underlying123, rfl, rfl, rfl⟩
instance : EqS Tryz.prog 123 4 := ⟨by kernel_rfl, by kernel_rfl, by kernel_rfl, by kernel_rfl⟩
instance : TyB Tryz.prog 123 [(0, 1), (1, 1), (2, 1), (3, 1)] := ⟨_, Tryz.underlying123, fun w => by kernel_rfl⟩
instance : TyA Tryz.prog 124 false := ⟨_, Tryz.underlying124, rfl⟩
instance : TyN Tryz.prog 124 1 8 (.nilFunc) := tyn_of (by kernel_rfl)
instance : TyA Tryz.prog 125 false := ⟨_, Tryz.underlying125, rfl⟩
instance : TyN Tryz.prog 125 1 8 (.nilFunc) := tyn_of (by kernel_rfl)
instance : TyA Tryz.prog 126 false := ⟨_, Tryz.underlying126, rfl⟩
instance : TyN Tryz.prog 126 1 8 (.nilFunc) := tyn_of (by kernel_rfl)
instance : TyA Tryz.prog 127 false := ⟨_, Tryz.underlying127, rfl⟩
instance : TyN Tryz.prog 127 1 8 (.nilFunc) := tyn_of (by kernel_rfl)
instance : TyA Tryz.prog 128 false := ⟨_, Tryz.underlying128, rfl⟩
instance : TyN Tryz.prog 128 1 8 (.nilFunc) := tyn_of (by kernel_rfl)
instance : TyD Tryz.prog 129 (.int .i64) := ⟨Tryz.underlying129⟩
instance : TyA Tryz.prog 129 false := ⟨_, Tryz.underlying129, rfl⟩
instance : TyN Tryz.prog 129 1 8 (.int .i64 0) := tyn_of (by kernel_rfl)
instance : TyA Tryz.prog 131 false := ⟨_, Tryz.underlying131, rfl⟩
instance : TyN Tryz.prog 131 1 8 (.nilFunc) := tyn_of (by kernel_rfl)
instance : TyA Tryz.prog 132 false := ⟨_, Tryz.underlying132, rfl⟩
instance : TyN Tryz.prog 132 1 8 (.nilFunc) := tyn_of (by kernel_rfl)
instance : TyA Tryz.prog 133 false := ⟨_, Tryz.underlying133, rfl⟩
instance : TyN Tryz.prog 133 1 8 (.nilFunc) := tyn_of (by kernel_rfl)
instance : TyA Tryz.prog 135 false := ⟨_, Tryz.underlying135, rfl⟩
instance : TyN Tryz.prog 135 1 8 (.nilFunc) := tyn_of (by kernel_rfl)
instance : TyA Tryz.prog 136 false := ⟨_, Tryz.underlying136, rfl⟩
instance : TyN Tryz.prog 136 1 8 (.nilFunc) := tyn_of (by kernel_rfl)
instance : TyA Tryz.prog 137 false := ⟨_, Tryz.underlying137, rfl⟩
instance : TyN Tryz.prog 137 1 8 (.nilFunc) := tyn_of (by kernel_rfl)
instance : TyD Tryz.prog 138 (.int .u64) := ⟨Tryz.underlying138⟩
instance : TyA Tryz.prog 138 false := ⟨_, Tryz.underlying138, rfl⟩
instance : TyN Tryz.prog 138 1 8 (.int .u64 0) := tyn_of (by kernel_rfl)
instance : TyA Tryz.prog 139 false := ⟨_, Tryz.underlying139, rfl⟩
instance : TyN Tryz.prog 139 1 8 (.nilFunc) := tyn_of (by kernel_rfl)
instance : TyA Tryz.prog 140 false := ⟨_, Tryz.underlying140, rfl⟩
instance : TyN Tryz.prog 140 1 8 (.nilFunc) := tyn_of (by kernel_rfl)
instance : TyA Tryz.prog 141 false := ⟨_, Tryz.underlying141, rfl⟩
instance : TyN Tryz.prog 141 1 8 (.nilFunc) := tyn_of (by kernel_rfl)
instance : TyA Tryz.prog 142 false := ⟨_, Tryz.underlying142, rfl⟩
instance : TyN Tryz.prog 142 1 8 (.nilFunc) := tyn_of (by kernel_rfl)
instance : TyA Tryz.prog 143 false := ⟨_, Tryz.underlying143, rfl⟩
instance : TyN Tryz.prog 143 1 8 (.nilFunc) := tyn_of (by kernel_rfl)
instance : TyA Tryz.prog 144 false := ⟨_, Tryz.underlying144, rfl⟩
instance : TyN Tryz.prog 144 1 8 (.nilFunc) := tyn_of (by kernel_rfl)
instance : TyA Tryz.prog 145 false := ⟨_, Tryz.underlying145, rfl⟩
instance : TyN Tryz.prog 145 1 8 (.nilFunc) := tyn_of (by kernel_rfl)
instance : TyA Tryz.prog 146 false := ⟨_, Tryz.underlying146, rfl⟩
instance : TyN Tryz.prog 146 1 8 (.nilFunc) := tyn_of (by kernel_rfl)
instance : TyA Tryz.prog 147 false := ⟨_, Tryz.underlying147, rfl⟩
instance : TyN Tryz.prog 147 1 8 (.nilFunc) := tyn_of (by kernel_rfl)
instance : TyD Tryz.prog 148 (.pointer 151) := ⟨Tryz.underlying148⟩
instance : TyA Tryz.prog 148 false := ⟨_, Tryz.underlying148, rfl⟩
instance : TyN Tryz.prog 148 1 8 (.pointer none) := tyn_of (by kernel_rfl)
instance : TyD Tryz.prog 149 (.map 27 3) := ⟨Tryz.underlying149⟩
instance : TyA Tryz.prog 149 false := ⟨_, Tryz.underlying149, rfl⟩
instance : TyN Tryz.prog 149 1 8 (.map none) := tyn_of (by kernel_rfl)
instance : TyA Tryz.prog 150 true := ⟨_, Tryz.underlying150, rfl⟩
instance : TyN Tryz.prog 150 2 32 (.agg #[.map none, .slice none 0 0]) := tyn_of (by kernel_rfl)
instance : TyF Tryz.prog 150 0 0 149 := ⟨_, _, Tryz.underlying150, rfl, rfl, rfl⟩
instance : TyF Tryz.prog 150 1 1 70 := ⟨_, _, Tryz.underlying150, rfl, rfl, rfl⟩
instance : TyB Tryz.prog 150 [(0, 1), (1, 1)] := ⟨_, Tryz.underlying150, fun w => by kernel_rfl⟩
instance : TyA Tryz.prog 151 true := ⟨_, Tryz.underlying151, rfl⟩
instance : TyN Tryz.prog 151 2 32 (.agg #[.map none, .slice none 0 0]) := tyn_of (by kernel_rfl)
instance : TyF Tryz.prog 151 0 0 149 := ⟨_, _, Tryz.underlying151, rfl, rfl, rfl⟩
instance : TyF Tryz.prog 151 1 1 70 := ⟨_, _, Tryz.underlying151, rfl, rfl, rfl⟩
instance : TyB Tryz.prog 151 [(0, 1), (1, 1)] := ⟨_, Tryz.underlying151, fun w => by kernel_rfl⟩
instance : TyD Tryz.prog 152 (.map 27 153) := ⟨Tryz.underlying152⟩
instance : TyA Tryz.prog 152 false := ⟨_, Tryz.underlying152, rfl⟩
instance : TyN Tryz.prog 152 1 8 (.map none) := tyn_of (by kernel_rfl)
instance : TyD Tryz.prog 153 (.map 27 4) := ⟨Tryz.underlying153⟩
instance : TyA Tryz.prog 153 false := ⟨_, Tryz.underlying153, rfl⟩
instance : TyN Tryz.prog 153 1 8 (.map none) := tyn_of (by kernel_rfl)
instance : TyA Tryz.prog 154 false := ⟨_, Tryz.underlying154, rfl⟩
instance : TyN Tryz.prog 154 1 8 (.nilFunc) := tyn_of (by kernel_rfl)
instance : TyA Tryz.prog 155 false := ⟨_, Tryz.underlying155, rfl⟩
instance : TyN Tryz.prog 155 1 8 (.nilFunc) := tyn_of (by kernel_rfl)
instance : TyA Tryz.prog 156 true := ⟨_, Tryz.underlying156, rfl⟩
instance : TyN Tryz.prog 156 3 24 (.agg #[.int .i64 0, .int .i64 0, .int .i64 0]) := tyn_of (by kernel_rfl)
instance : TyF Tryz.prog 156 0 0 3 := ⟨_, _, Tryz.underlying156, rfl, rfl, rfl⟩
instance : TyF Tryz.prog 156 1 1 3 := ⟨_, _, Tryz.underlying156, rfl, rfl, rfl⟩
instance : TyF Tryz.prog 156 2 2 3 := ⟨_, _, Tryz.underlying156, rfl, rfl, rfl⟩
instance : EqS Tryz.prog 156 3 := ⟨by kernel_rfl, by kernel_rfl, by kernel_rfl, by kernel_rfl⟩
instance : TyB Tryz.prog 156 [(0, 1), (1, 1), (2, 1)] := ⟨_, Tryz.underlying156, fun w => by kernel_rfl⟩
instance : TyA Tryz.prog 157 true := ⟨_, Tryz.underlying157, rfl⟩
instance : TyN Tryz.prog 157 3 24 (.agg #[.int .i64 0, .int .i64 0, .int .i64 0]) := tyn_of (by kernel_rfl)
instance : TyF Tryz.prog 157 0 0 3 := ⟨_, _, Tryz.underlying157, rfl, rfl, rfl⟩
instance : TyF Tryz.prog 157 1 1 3 := ⟨_, _, Tryz.underlying157, rfl, rfl, rfl⟩
instance : TyF Tryz.prog 157 2 2 3 := ⟨_, _, Tryz.underlying157, rfl, rfl, rfl⟩
instance : EqS Tryz.prog 157 3 := ⟨by kernel_rfl, by kernel_rfl, by kernel_rfl, by kernel_rfl⟩
instance : TyB Tryz.prog 157 [(0, 1), (1, 1), (2, 1)] := ⟨_, Tryz.underlying157, fun w => by kernel_rfl⟩
instance : TyA Tryz.prog 158 false := ⟨_, Tryz.underlying158, rfl⟩
instance : TyN Tryz.prog 158 1 8 (.nilFunc) := tyn_of (by kernel_rfl)
instance : TyA Tryz.prog 160 false := ⟨_, Tryz.underlying160, rfl⟩
instance : TyN Tryz.prog 160 1 8 (.nilFunc) := tyn_of (by kernel_rfl)
instance : TyA Tryz.prog 161 false := ⟨_, Tryz.underlying161, rfl⟩
instance : TyN Tryz.prog 161 1 8 (.nilFunc) := tyn_of (by kernel_rfl)
instance : TyA Tryz.prog 162 false := ⟨_, Tryz.underlying162, rfl⟩
instance : TyN Tryz.prog 162 1 8 (.nilFunc) := tyn_of (by kernel_rfl)
instance : TyA Tryz.prog 163 false := ⟨_, Tryz.underlying163, rfl⟩
instance : TyN Tryz.prog 163 1 8 (.nilFunc) := tyn_of (by kernel_rfl)
instance : TyA Tryz.prog 164 false := ⟨_, Tryz.underlying164, rfl⟩
instance : TyN Tryz.prog 164 1 8 (.nilFunc) := tyn_of (by kernel_rfl)
instance : TyA Tryz.prog 165 false := ⟨_, Tryz.underlying165, rfl⟩
instance : TyN Tryz.prog 165 1 8 (.nilFunc) := tyn_of (by kernel_rfl)
instance : TyA Tryz.prog 166 false := ⟨_, Tryz.underlying166, rfl⟩
instance : TyN Tryz.prog 166 1 8 (.nilFunc) := tyn_of (by kernel_rfl)
instance : TyA Tryz.prog 167 false := ⟨_, Tryz.underlying167, rfl⟩
instance : TyN Tryz.prog 167 1 8 (.nilFunc) := tyn_of (by kernel_rfl)
instance : TyA Tryz.prog 168 false := ⟨_, Tryz.underlying168, rfl⟩
instance : TyN Tryz.prog 168 1 8 (.nilFunc) := tyn_of (by kernel_rfl)
instance : TyA Tryz.prog 169 false := ⟨_, Tryz.underlying169, rfl⟩
instance : TyN Tryz.prog 169 1 8 (.nilFunc) := tyn_of (by kernel_rfl)
instance : TyA Tryz.prog 170 true := ⟨_, Tryz.underlying170, rfl⟩
instance : TyN Tryz.prog 170 4 32 (.agg #[.int .i64 0, .int .u32 0, .int .i64 0, .int .u32 0]) := tyn_of (by kernel_rfl)
instance : TyF Tryz.prog 170 0 0 123 := ⟨_, _, Tryz.underlying170, rfl, rfl, rfl⟩
instance : TyB Tryz.prog 170 [(0, 4)] := ⟨_, Tryz.underlying170, fun w => by kernel_rfl⟩
instance : TyA Tryz.prog 171 true := ⟨_, Tryz.underlying171, rfl⟩
instance : TyN Tryz.prog 171 4 32 (.agg #[.int .i64 0, .int .u32 0, .int .i64 0, .int .u32 0]) := tyn_of (by kernel_rfl)
instance : TyF Tryz.prog 171 0 0 123 := ⟨_, _, Tryz.underlying171, rfl, rfl, rfl⟩
instance : TyB Tryz.prog 171 [(0, 4)] := ⟨_, Tryz.underlying171, fun w => by kernel_rfl⟩
instance : TyA Tryz.prog 172 false := ⟨_, Tryz.underlying172, rfl⟩
instance : TyN Tryz.prog 172 1 8 (.nilFunc) := tyn_of (by kernel_rfl)
instance : TyA Tryz.prog 173 false := ⟨_, Tryz.underlying173, rfl⟩
instance : TyN Tryz.prog 173 1 8 (.nilFunc) := tyn_of (by kernel_rfl)
instance : TyA Tryz.prog 174 false := ⟨_, Tryz.underlying174, rfl⟩
instance : TyN Tryz.prog 174 1 8 (.nilFunc) := tyn_of (by kernel_rfl)
instance : TyA Tryz.prog 175 false := ⟨_, Tryz.underlying175, rfl⟩
instance : TyN Tryz.prog 175 1 8 (.nilFunc) := tyn_of (by kernel_rfl)
instance : TyA Tryz.prog 176 false := ⟨_, Tryz.underlying176, rfl⟩
instance : TyN Tryz.prog 176 1 8 (.nilFunc) := tyn_of (by kernel_rfl)
instance : TyA Tryz.prog 177 false := ⟨_, Tryz.underlying177, rfl⟩
instance : TyN Tryz.prog 177 1 8 (.nilFunc) := tyn_of (by kernel_rfl)
instance : TyD Tryz.prog 178 (.int .u64) := ⟨Tryz.underlying178⟩
instance : TyA Tryz.prog 178 false := ⟨_, Tryz.underlying178, rfl⟩
instance : TyN Tryz.prog 178 1 8 (.int .u64 0) := tyn_of (by kernel_rfl)
instance : TyA Tryz.prog 179 false := ⟨_, Tryz.underlying179, rfl⟩
instance : TyN Tryz.prog 179 1 8 (.nilFunc) := tyn_of (by kernel_rfl)
instance : TyA Tryz.prog 180 false := ⟨_, Tryz.underlying180, rfl⟩
instance : TyN Tryz.prog 180 1 8 (.nilFunc) := tyn_of (by kernel_rfl)
instance : TyA Tryz.prog 181 false := ⟨_, Tryz.underlying181, rfl⟩
instance : TyN Tryz.prog 181 1 8 (.nilFunc) := tyn_of (by kernel_rfl)
instance : TyD Tryz.prog 182 (.pointer 3) := ⟨Tryz.underlying182⟩
instance : TyA Tryz.prog 182 false := ⟨_, Tryz.underlying182, rfl⟩
instance : TyN Tryz.prog 182 1 8 (.pointer none) := tyn_of (by kernel_rfl)
instance : TyA Tryz.prog 183 false := ⟨_, Tryz.underlying183, rfl⟩
instance : TyN Tryz.prog 183 1 8 (.nilFunc) := tyn_of (by kernel_rfl)
instance : TyA Tryz.prog 184 false := ⟨_, Tryz.underlying184, rfl⟩
instance : TyN Tryz.prog 184 1 8 (.nilFunc) := tyn_of (by kernel_rfl)
instance : TyA Tryz.prog 185 false := ⟨_, Tryz.underlying185, rfl⟩
instance : TyN Tryz.prog 185 1 8 (.nilFunc) := tyn_of (by kernel_rfl)
instance : TyA Tryz.prog 186 false := ⟨_, Tryz.underlying186, rfl⟩
instance : TyN Tryz.prog 186 1 8 (.nilFunc) := tyn_of (by kernel_rfl)
instance : TyD Tryz.prog 187 (.slice 5) := ⟨Tryz.underlying187⟩
instance : TyA Tryz.prog 187 false := ⟨_, Tryz.underlying187, rfl⟩
instance : TyN Tryz.prog 187 1 24 (.slice none 0 0) := tyn_of (by kernel_rfl)
instance : TyA Tryz.prog 188 false := ⟨_, Tryz.underlying188, rfl⟩
instance : TyN Tryz.prog 188 1 8 (.nilFunc) := tyn_of (by kernel_rfl)
instance : TyA Tryz.prog 189 false := ⟨_, Tryz.underlying189, rfl⟩
instance : TyN Tryz.prog 189 1 8 (.nilFunc) := tyn_of (by kernel_rfl)
instance : TyA Tryz.prog 190 false := ⟨_, Tryz.underlying190, rfl⟩
instance : TyN Tryz.prog 190 1 8 (.nilFunc) := tyn_of (by kernel_rfl)
instance : TyA Tryz.prog 191 false := ⟨_, Tryz.underlying191, rfl⟩
instance : TyN Tryz.prog 191 1 8 (.nilFunc) := tyn_of (by kernel_rfl)
instance : TyA Tryz.prog 192 false := ⟨_, Tryz.underlying192, rfl⟩
instance : TyN Tryz.prog 192 1 8 (.nilFunc) := tyn_of (by kernel_rfl)
instance : TyA Tryz.prog 193 false := ⟨_, Tryz.underlying193, rfl⟩
instance : TyN Tryz.prog 193 1 8 (.nilFunc) := tyn_of (by kernel_rfl)
instance : TyA Tryz.prog 194 false := ⟨_, Tryz.underlying194, rfl⟩
instance : TyN Tryz.prog 194 1 8 (.nilFunc) := tyn_of (by kernel_rfl)
instance : TyD Tryz.prog 195 (.slice 70) := ⟨Tryz.underlying195⟩
instance : TyA Tryz.prog 195 false := ⟨_, Tryz.underlying195, rfl⟩
instance : TyN Tryz.prog 195 1 24 (.slice none 0 0) := tyn_of (by kernel_rfl)
instance : TyD Tryz.prog 196 (.pointer 226) := ⟨Tryz.underlying196⟩
instance : TyA Tryz.prog 196 false := ⟨_, Tryz.underlying196, rfl⟩
instance : TyN Tryz.prog 196 1 8 (.pointer none) := tyn_of (by kernel_rfl)
instance : TyA Tryz.prog 197 false := ⟨_, Tryz.underlying197, rfl⟩
instance : TyN Tryz.prog 197 1 8 (.nilFunc) := tyn_of (by kernel_rfl)
instance : TyA Tryz.prog 198 false := ⟨_, Tryz.underlying198, rfl⟩
instance : TyN Tryz.prog 198 1 8 (.nilFunc) := tyn_of (by kernel_rfl)
instance : TyA Tryz.prog 200 false := ⟨_, Tryz.underlying200, rfl⟩
instance : TyN Tryz.prog 200 1 8 (.nilFunc) := tyn_of (by kernel_rfl)
instance : TyA Tryz.prog 201 false := ⟨_, Tryz.underlying201, rfl⟩
instance : TyN Tryz.prog 201 1 8 (.nilFunc) := tyn_of (by kernel_rfl)
instance : TyA Tryz.prog 202 false := ⟨_, Tryz.underlying202, rfl⟩
instance : TyN Tryz.prog 202 1 8 (.nilFunc) := tyn_of (by kernel_rfl)
instance : TyA Tryz.prog 203 false := ⟨_, Tryz.underlying203, rfl⟩
instance : TyN Tryz.prog 203 1 8 (.nilFunc) := tyn_of (by kernel_rfl)
instance : TyA Tryz.prog 204 false := ⟨_, Tryz.underlying204, rfl⟩
instance : TyN Tryz.prog 204 1 8 (.nilFunc) := tyn_of (by kernel_rfl)
instance : TyA Tryz.prog 205 false := ⟨_, Tryz.underlying205, rfl⟩
instance : TyN Tryz.prog 205 1 8 (.nilFunc) := tyn_of (by kernel_rfl)
instance : TyA Tryz.prog 206 false := ⟨_, Tryz.underlying206, rfl⟩
instance : TyN Tryz.prog 206 1 8 (.nilFunc) := tyn_of (by kernel_rfl)
instance : TyA Tryz.prog 207 false := ⟨_, Tryz.underlying207, rfl⟩
instance : TyN Tryz.prog 207 1 8 (.nilFunc) := tyn_of (by kernel_rfl)
instance : TyA Tryz.prog 208 false := ⟨_, Tryz.underlying208, rfl⟩
instance : TyN Tryz.prog 208 1 8 (.nilFunc) := tyn_of (by kernel_rfl)
instance : TyA Tryz.prog 209 false := ⟨_, Tryz.underlying209, rfl⟩
instance : TyN Tryz.prog 209 1 8 (.nilFunc) := tyn_of (by kernel_rfl)
instance : TyA Tryz.prog 210 false := ⟨_, Tryz.underlying210, rfl⟩
instance : TyN Tryz.prog 210 1 8 (.nilFunc) := tyn_of (by kernel_rfl)
instance : TyA Tryz.prog 211 false := ⟨_, Tryz.underlying211, rfl⟩
instance : TyN Tryz.prog 211 1 8 (.nilFunc) := tyn_of (by kernel_rfl)
instance : TyA Tryz.prog 212 false := ⟨_, Tryz.underlying212, rfl⟩
instance : TyN Tryz.prog 212 1 8 (.nilFunc) := tyn_of (by kernel_rfl)
instance : TyA Tryz.prog 213 false := ⟨_, Tryz.underlying213, rfl⟩
instance : TyN Tryz.prog 213 1 8 (.nilFunc) := tyn_of (by kernel_rfl)
instance : TyD Tryz.prog 214 (.pointer 178) := ⟨Tryz.underlying214⟩
instance : TyA Tryz.prog 214 false := ⟨_, Tryz.underlying214, rfl⟩
instance : TyN Tryz.prog 214 1 8 (.pointer none) := tyn_of (by kernel_rfl)
instance : TyA Tryz.prog 216 false := ⟨_, Tryz.underlying216, rfl⟩
instance : TyN Tryz.prog 216 1 8 (.nilFunc) := tyn_of (by kernel_rfl)
instance : TyA Tryz.prog 217 false := ⟨_, Tryz.underlying217, rfl⟩
instance : TyN Tryz.prog 217 1 8 (.nilFunc) := tyn_of (by kernel_rfl)
instance : TyA Tryz.prog 218 false := ⟨_, Tryz.underlying218, rfl⟩
instance : TyN Tryz.prog 218 1 8 (.nilFunc) := tyn_of (by kernel_rfl)
instance : TyA Tryz.prog 219 false := ⟨_, Tryz.underlying219, rfl⟩
instance : TyN Tryz.prog 219 1 8 (.nilFunc) := tyn_of (by kernel_rfl)
instance : TyA Tryz.prog 220 false := ⟨_, Tryz.underlying220, rfl⟩
instance : TyN Tryz.prog 220 1 8 (.nilFunc) := tyn_of (by kernel_rfl)
instance : TyA Tryz.prog 221 false := ⟨_, Tryz.underlying221, rfl⟩
instance : TyN Tryz.prog 221 1 8 (.nilFunc) := tyn_of (by kernel_rfl)
instance : TyA Tryz.prog 222 false := ⟨_, Tryz.underlying222, rfl⟩
instance : TyN Tryz.prog 222 1 8 (.nilFunc) := tyn_of (by kernel_rfl)
instance : TyA Tryz.prog 223 false := ⟨_, Tryz.underlying223, rfl⟩
instance : TyN Tryz.prog 223 1 8 (.nilFunc) := tyn_of (by kernel_rfl)
instance : TyA Tryz.prog 224 false := ⟨_, Tryz.underlying224, rfl⟩
instance : TyN Tryz.prog 224 1 8 (.nilFunc) := tyn_of (by kernel_rfl)
instance : TyA Tryz.prog 225 true := ⟨_, Tryz.underlying225, rfl⟩
instance : TyN Tryz.prog 225 3 72 (.agg #[.slice none 0 0, .slice none 0 0, .slice none 0 0]) := tyn_of (by kernel_rfl)
instance : TyF Tryz.prog 225 0 0 76 := ⟨_, _, Tryz.underlying225, rfl, rfl, rfl⟩
instance : TyF Tryz.prog 225 1 1 76 := ⟨_, _, Tryz.underlying225, rfl, rfl, rfl⟩
instance : TyF Tryz.prog 225 2 2 76 := ⟨_, _, Tryz.underlying225, rfl, rfl, rfl⟩
instance : TyB Tryz.prog 225 [(0, 1), (1, 1), (2, 1)] := ⟨_, Tryz.underlying225, fun w => by kernel_rfl⟩
instance : TyA Tryz.prog 226 true := ⟨_, Tryz.underlying226, rfl⟩
instance : TyN Tryz.prog 226 3 72 (.agg #[.slice none 0 0, .slice none 0 0, .slice none 0 0]) := tyn_of (by kernel_rfl)
instance : TyF Tryz.prog 226 0 0 76 := ⟨_, _, Tryz.underlying226, rfl, rfl, rfl⟩
instance : TyF Tryz.prog 226 1 1 76 := ⟨_, _, Tryz.underlying226, rfl, rfl, rfl⟩
instance : TyF Tryz.prog 226 2 2 76 := ⟨_, _, Tryz.underlying226, rfl, rfl, rfl⟩
instance : TyB Tryz.prog 226 [(0, 1), (1, 1), (2, 1)] := ⟨_, Tryz.underlying226, fun w => by kernel_rfl⟩
instance : TyA Tryz.prog 227 false := ⟨_, Tryz.underlying227, rfl⟩
instance : TyN Tryz.prog 227 1 8 (.nilFunc) := tyn_of (by kernel_rfl)
instance : TyA Tryz.prog 228 false := ⟨_, Tryz.underlying228, rfl⟩
instance : TyN Tryz.prog 228 1 8 (.nilFunc) := tyn_of (by kernel_rfl)
instance : TyA Tryz.prog 229 false := ⟨_, Tryz.underlying229, rfl⟩
instance : TyN Tryz.prog 229 1 8 (.nilFunc) := tyn_of (by kernel_rfl)
instance : TyA Tryz.prog 230 false := ⟨_, Tryz.underlying230, rfl⟩
instance : TyN Tryz.prog 230 1 8 (.nilFunc) := tyn_of (by kernel_rfl)
instance : TyA Tryz.prog 231 false := ⟨_, Tryz.underlying231, rfl⟩
instance : TyN Tryz.prog 231 1 8 (.nilFunc) := tyn_of (by kernel_rfl)
instance : TyA Tryz.prog 232 false := ⟨_, Tryz.underlying232, rfl⟩
instance : TyN Tryz.prog 232 1 8 (.nilFunc) := tyn_of (by kernel_rfl)
instance : TyA Tryz.prog 233 false := ⟨_, Tryz.underlying233, rfl⟩
instance : TyN Tryz.prog 233 1 8 (.nilFunc) := tyn_of (by kernel_rfl)
instance : TyA Tryz.prog 234 false := ⟨_, Tryz.underlying234, rfl⟩
instance : TyN Tryz.prog 234 1 8 (.nilFunc) := tyn_of (by kernel_rfl)
instance : TyA Tryz.prog 235 false := ⟨_, Tryz.underlying235, rfl⟩
instance : TyN Tryz.prog 235 1 8 (.nilFunc) := tyn_of (by kernel_rfl)
instance : TyA Tryz.prog 236 false := ⟨_, Tryz.underlying236, rfl⟩
instance : TyN Tryz.prog 236 1 8 (.nilFunc) := tyn_of (by kernel_rfl)
instance : TyA Tryz.prog 237 false := ⟨_, Tryz.underlying237, rfl⟩
instance : TyN Tryz.prog 237 1 8 (.nilFunc) := tyn_of (by kernel_rfl)
instance : TyA Tryz.prog 238 false := ⟨_, Tryz.underlying238, rfl⟩
instance : TyN Tryz.prog 238 1 8 (.nilFunc) := tyn_of (by kernel_rfl)
instance : TyA Tryz.prog 239 false := ⟨_, Tryz.underlying239, rfl⟩
instance : TyN Tryz.prog 239 1 8 (.nilFunc) := tyn_of (by kernel_rfl)
instance : TyA Tryz.prog 240 false := ⟨_, Tryz.underlying240, rfl⟩
instance : TyN Tryz.prog 240 1 8 (.nilFunc) := tyn_of (by kernel_rfl)
instance : TyA Tryz.prog 241 false := ⟨_, Tryz.underlying241, rfl⟩
instance : TyN Tryz.prog 241 1 8 (.nilFunc) := tyn_of (by kernel_rfl)
instance : TyA Tryz.prog 242 false := ⟨_, Tryz.underlying242, rfl⟩
instance : TyN Tryz.prog 242 1 8 (.nilFunc) := tyn_of (by kernel_rfl)
instance : TyA Tryz.prog 243 false := ⟨_, Tryz.underlying243, rfl⟩
instance : TyN Tryz.prog 243 1 8 (.nilFunc) := tyn_of (by kernel_rfl)
instance : TyA Tryz.prog 244 false := ⟨_, Tryz.underlying244, rfl⟩
instance : TyN Tryz.prog 244 1 8 (.nilFunc) := tyn_of (by kernel_rfl)
instance : TyA Tryz.prog 245 false := ⟨_, Tryz.underlying245, rfl⟩
instance : TyN Tryz.prog 245 1 8 (.nilFunc) := tyn_of (by kernel_rfl)
instance : TyA Tryz.prog 246 false := ⟨_, Tryz.underlying246, rfl⟩
instance : TyN Tryz.prog 246 1 8 (.nilFunc) := tyn_of (by kernel_rfl)
instance : TyA Tryz.prog 247 false := ⟨_, Tryz.underlying247, rfl⟩
instance : TyN Tryz.prog 247 1 8 (.nilFunc) := tyn_of (by kernel_rfl)
instance : TyA Tryz.prog 248 false := ⟨_, Tryz.underlying248, rfl⟩
instance : TyN Tryz.prog 248 1 8 (.nilFunc) := tyn_of (by kernel_rfl)
instance : TyA Tryz.prog 249 false := ⟨_, Tryz.underlying249, rfl⟩
instance : TyN Tryz.prog 249 1 8 (.nilFunc) := tyn_of (by kernel_rfl)
instance : TyA Tryz.prog 250 false := ⟨_, Tryz.underlying250, rfl⟩
instance : TyN Tryz.prog 250 1 8 (.nilFunc) := tyn_of (by kernel_rfl)
instance : TyA Tryz.prog 251 false := ⟨_, Tryz.underlying251, rfl⟩
instance : TyN Tryz.prog 251 1 8 (.nilFunc) := tyn_of (by kernel_rfl)
instance : TyA Tryz.prog 252 false := ⟨_, Tryz.underlying252, rfl⟩
instance : TyN Tryz.prog 252 1 8 (.nilFunc) := tyn_of (by kernel_rfl)
instance : TyA Tryz.prog 253 false := ⟨_, Tryz.underlying253, rfl⟩
instance : TyN Tryz.prog 253 1 8 (.nilFunc) := tyn_of (by kernel_rfl)
instance : TyA Tryz.prog 254 false := ⟨_, Tryz.underlying254, rfl⟩
instance : TyN Tryz.prog 254 1 8 (.nilFunc) := tyn_of (by kernel_rfl)
instance : TyA Tryz.prog 262 false := ⟨_, Tryz.underlying262, rfl⟩
instance : TyN Tryz.prog 262 1 8 (.nilFunc) := tyn_of (by kernel_rfl)
instance : TyD Tryz.prog 263 (.pointer 5) := ⟨Tryz.underlying263⟩
instance : TyA Tryz.prog 263 false := ⟨_, Tryz.underlying263, rfl⟩
instance : TyN Tryz.prog 263 1 8 (.pointer none) := tyn_of (by kernel_rfl)
instance : FnB Tryz.prog 2 := ⟨_, Tryz.func2, by decide +kernel, rfl⟩
instance : FnB Tryz.prog 3 := ⟨_, Tryz.func3, by decide +kernel, rfl⟩
instance : FnB Tryz.prog 4 := ⟨_, Tryz.func4, by decide +kernel, rfl⟩
instance : FnB Tryz.prog 5 := ⟨_, Tryz.func5, by decide +kernel, rfl⟩
instance : FnB Tryz.prog 6 := ⟨_, Tryz.func6, by decide +kernel, rfl⟩
instance : FnB Tryz.prog 7 := ⟨_, Tryz.func7, by decide +kernel, rfl⟩
instance : FnB Tryz.prog 8 := ⟨_, Tryz.func8, by decide +kernel, rfl⟩
instance : FnB Tryz.prog 9 := ⟨_, Tryz.func9, by decide +kernel, rfl⟩
instance : FnB Tryz.prog 10 := ⟨_, Tryz.func10, by decide +kernel, rfl⟩
instance : FnB Tryz.prog 11 := ⟨_, Tryz.func11, by decide +kernel, rfl⟩
instance : FnB Tryz.prog 12 := ⟨_, Tryz.func12, by decide +kernel, rfl⟩
instance : FnB Tryz.prog 13 := ⟨_, Tryz.func13, by decide +kernel, rfl⟩
instance : FnB Tryz.prog 14 := ⟨_, Tryz.func14, by decide +kernel, rfl⟩
instance : FnB Tryz.prog 15 := ⟨_, Tryz.func15, by decide +kernel, rfl⟩
instance : FnB Tryz.prog 16 := ⟨_, Tryz.func16, by decide +kernel, rfl⟩
instance : FnB Tryz.prog 17 := ⟨_, Tryz.func17, by decide +kernel, rfl⟩
instance : FnB Tryz.prog 18 := ⟨_, Tryz.func18, by decide +kernel, rfl⟩
instance : FnB Tryz.prog 19 := ⟨_, Tryz.func19, by decide +kernel, rfl⟩
instance : FnB Tryz.prog 20 := ⟨_, Tryz.func20, by decide +kernel, rfl⟩
instance : FnB Tryz.prog 21 := ⟨_, Tryz.func21, by decide +kernel, rfl⟩
instance : FnB Tryz.prog 22 := ⟨_, Tryz.func22, by decide +kernel, rfl⟩
instance : FnB Tryz.prog 23 := ⟨_, Tryz.func23, by decide +kernel, rfl⟩
instance : FnB Tryz.prog 24 := ⟨_, Tryz.func24, by decide +kernel, rfl⟩
instance : FnB Tryz.prog 25 := ⟨_, Tryz.func25, by decide +kernel, rfl⟩
instance : FnB Tryz.prog 26 := ⟨_, Tryz.func26, by decide +kernel, rfl⟩
instance : FnB Tryz.prog 27 := ⟨_, Tryz.func27, by decide +kernel, rfl⟩
instance : FnB Tryz.prog 28 := ⟨_, Tryz.func28, by decide +kernel, rfl⟩
instance : FnB Tryz.prog 29 := ⟨_, Tryz.func29, by decide +kernel, rfl⟩
instance : FnB Tryz.prog 30 := ⟨_, Tryz.func30, by decide +kernel, rfl⟩
instance : FnB Tryz.prog 31 := ⟨_, Tryz.func31, by decide +kernel, rfl⟩
instance : FnB Tryz.prog 32 := ⟨_, Tryz.func32, by decide +kernel, rfl⟩
instance : FnB Tryz.prog 33 := ⟨_, Tryz.func33, by decide +kernel, rfl⟩
instance : FnB Tryz.prog 34 := ⟨_, Tryz.func34, by decide +kernel, rfl⟩
instance : FnB Tryz.prog 35 := ⟨_, Tryz.func35, by decide +kernel, rfl⟩
instance : FnB Tryz.prog 36 := ⟨_, Tryz.func36, by decide +kernel, rfl⟩
instance : FnB Tryz.prog 37 := ⟨_, Tryz.func37, by decide +kernel, rfl⟩
instance : FnB Tryz.prog 38 := ⟨_, Tryz.func38, by decide +kernel, rfl⟩
instance : FnB Tryz.prog 39 := ⟨_, Tryz.func39, by decide +kernel, rfl⟩
instance : FnB Tryz.prog 40 := ⟨_, Tryz.func40, by decide +kernel, rfl⟩
instance : FnB Tryz.prog 41 := ⟨_, Tryz.func41, by decide +kernel, rfl⟩
instance : FnB Tryz.prog 42 := ⟨_, Tryz.func42, by decide +kernel, rfl⟩
instance : FnB Tryz.prog 43 := ⟨_, Tryz.func43, by decide +kernel, rfl⟩
instance : FnB Tryz.prog 44 := ⟨_, Tryz.func44, by decide +kernel, rfl⟩
instance : FnB Tryz.prog 45 := ⟨_, Tryz.func45, by decide +kernel, rfl⟩
instance : FnB Tryz.prog 46 := ⟨_, Tryz.func46, by decide +kernel, rfl⟩
instance : FnB Tryz.prog 47 := ⟨_, Tryz.func47, by decide +kernel, rfl⟩
instance : FnB Tryz.prog 48 := ⟨_, Tryz.func48, by decide +kernel, rfl⟩
instance : FnB Tryz.prog 49 := ⟨_, Tryz.func49, by decide +kernel, rfl⟩
instance : FnB Tryz.prog 50 := ⟨_, Tryz.func50, by decide +kernel, rfl⟩
instance : FnB Tryz.prog 51 := ⟨_, Tryz.func51, by decide +kernel, rfl⟩
instance : FnB Tryz.prog 52 := ⟨_, Tryz.func52, by decide +kernel, rfl⟩
instance : FnB Tryz.prog 53 := ⟨_, Tryz.func53, by decide +kernel, rfl⟩
instance : FnB Tryz.prog 54 := ⟨_, Tryz.func54, by decide +kernel, rfl⟩
instance : FnB Tryz.prog 55 := ⟨_, Tryz.func55, by decide +kernel, rfl⟩
instance : FnB Tryz.prog 56 := ⟨_, Tryz.func56, by decide +kernel, rfl⟩
instance : FnB Tryz.prog 57 := ⟨_, Tryz.func57, by decide +kernel, rfl⟩
instance : FnB Tryz.prog 58 := ⟨_, Tryz.func58, by decide +kernel, rfl⟩
instance : FnB Tryz.prog 59 := ⟨_, Tryz.func59, by decide +kernel, rfl⟩
instance : FnB Tryz.prog 60 := ⟨_, Tryz.func60, by decide +kernel, rfl⟩
instance : FnB Tryz.prog 61 := ⟨_, Tryz.func61, by decide +kernel, rfl⟩
instance : FnB Tryz.prog 62 := ⟨_, Tryz.func62, by decide +kernel, rfl⟩
instance : FnB Tryz.prog 63 := ⟨_, Tryz.func63, by decide +kernel, rfl⟩
instance : FnB Tryz.prog 64 := ⟨_, Tryz.func64, by decide +kernel, rfl⟩
instance : FnB Tryz.prog 65 := ⟨_, Tryz.func65, by decide +kernel, rfl⟩
instance : FnB Tryz.prog 66 := ⟨_, Tryz.func66, by decide +kernel, rfl⟩
instance : FnB Tryz.prog 67 := ⟨_, Tryz.func67, by decide +kernel, rfl⟩
instance : FnB Tryz.prog 68 := ⟨_, Tryz.func68, by decide +kernel, rfl⟩
instance : FnB Tryz.prog 69 := ⟨_, Tryz.func69, by decide +kernel, rfl⟩
instance : FnB Tryz.prog 70 := ⟨_, Tryz.func70, by decide +kernel, rfl⟩
instance : FnB Tryz.prog 71 := ⟨_, Tryz.func71, by decide +kernel, rfl⟩
instance : FnB Tryz.prog 72 := ⟨_, Tryz.func72, by decide +kernel, rfl⟩
instance : FnB Tryz.prog 73 := ⟨_, Tryz.func73, by decide +kernel, rfl⟩
instance : FnB Tryz.prog 74 := ⟨_, Tryz.func74, by decide +kernel, rfl⟩
instance : FnB Tryz.prog 75 := ⟨_, Tryz.func75, by decide +kernel, rfl⟩
instance : FnB Tryz.prog 76 := ⟨_, Tryz.func76, by decide +kernel, rfl⟩
instance : FnB Tryz.prog 77 := ⟨_, Tryz.func77, by decide +kernel, rfl⟩
instance : FnB Tryz.prog 78 := ⟨_, Tryz.func78, by decide +kernel, rfl⟩
instance : FnB Tryz.prog 79 := ⟨_, Tryz.func79, by decide +kernel, rfl⟩
instance : FnB Tryz.prog 80 := ⟨_, Tryz.func80, by decide +kernel, rfl⟩
instance : FnB Tryz.prog 81 := ⟨_, Tryz.func81, by decide +kernel, rfl⟩
instance : FnB Tryz.prog 82 := ⟨_, Tryz.func82, by decide +kernel, rfl⟩
instance : FnB Tryz.prog 83 := ⟨_, Tryz.func83, by decide +kernel, rfl⟩
instance : FnB Tryz.prog 84 := ⟨_, Tryz.func84, by decide +kernel, rfl⟩
instance : FnB Tryz.prog 85 := ⟨_, Tryz.func85, by decide +kernel, rfl⟩
instance : FnB Tryz.prog 86 := ⟨_, Tryz.func86, by decide +kernel, rfl⟩
instance : FnB Tryz.prog 87 := ⟨_, Tryz.func87, by decide +kernel, rfl⟩
instance : FnB Tryz.prog 88 := ⟨_, Tryz.func88, by decide +kernel, rfl⟩
instance : FnB Tryz.prog 89 := ⟨_, Tryz.func89, by decide +kernel, rfl⟩
instance : FnB Tryz.prog 90 := ⟨_, Tryz.func90, by decide +kernel, rfl⟩
instance : FnB Tryz.prog 91 := ⟨_, Tryz.func91, by decide +kernel, rfl⟩
instance : FnB Tryz.prog 92 := ⟨_, Tryz.func92, by decide +kernel, rfl⟩
instance : FnB Tryz.prog 93 := ⟨_, Tryz.func93, by decide +kernel, rfl⟩
instance : FnB Tryz.prog 94 := ⟨_, Tryz.func94, by decide +kernel, rfl⟩
instance : FnB Tryz.prog 95 := ⟨_, Tryz.func95, by decide +kernel, rfl⟩
instance : FnB Tryz.prog 96 := ⟨_, Tryz.func96, by decide +kernel, rfl⟩
instance : FnB Tryz.prog 97 := ⟨_, Tryz.func97, by decide +kernel, rfl⟩
instance : FnB Tryz.prog 98 := ⟨_, Tryz.func98, by decide +kernel, rfl⟩
instance : FnB Tryz.prog 99 := ⟨_, Tryz.func99, by decide +kernel, rfl⟩
instance : FnB Tryz.prog 100 := ⟨_, Tryz.func100, by decide +kernel, rfl⟩
instance : FnB Tryz.prog 101 := ⟨_, Tryz.func101, by decide +kernel, rfl⟩
instance : FnB Tryz.prog 102 := ⟨_, Tryz.func102, by decide +kernel, rfl⟩
instance : FnB Tryz.prog 103 := ⟨_, Tryz.func103, by decide +kernel, rfl⟩
instance : FnB Tryz.prog 104 := ⟨_, Tryz.func104, by decide +kernel, rfl⟩
instance : FnB Tryz.prog 105 := ⟨_, Tryz.func105, by decide +kernel, rfl⟩
instance : FnB Tryz.prog 106 := ⟨_, Tryz.func106, by decide +kernel, rfl⟩
instance : FnB Tryz.prog 107 := ⟨_, Tryz.func107, by decide +kernel, rfl⟩
instance : FnB Tryz.prog 108 := ⟨_, Tryz.func108, by decide +kernel, rfl⟩
instance : FnB Tryz.prog 109 := ⟨_, Tryz.func109, by decide +kernel, rfl⟩
instance : FnB Tryz.prog 110 := ⟨_, Tryz.func110, by decide +kernel, rfl⟩
instance : FnB Tryz.prog 111 := ⟨_, Tryz.func111, by decide +kernel, rfl⟩
instance : FnB Tryz.prog 112 := ⟨_, Tryz.func112, by decide +kernel, rfl⟩
instance : FnB Tryz.prog 113 := ⟨_, Tryz.func113, by decide +kernel, rfl⟩
instance : FnB Tryz.prog 114 := ⟨_, Tryz.func114, by decide +kernel, rfl⟩
instance : FnB Tryz.prog 115 := ⟨_, Tryz.func115, by decide +kernel, rfl⟩
instance : FnB Tryz.prog 116 := ⟨_, Tryz.func116, by decide +kernel, rfl⟩
instance : FnB Tryz.prog 117 := ⟨_, Tryz.func117, by decide +kernel, rfl⟩
instance : FnB Tryz.prog 118 := ⟨_, Tryz.func118, by decide +kernel, rfl⟩
instance : FnB Tryz.prog 119 := ⟨_, Tryz.func119, by decide +kernel, rfl⟩
instance : FnB Tryz.prog 120 := ⟨_, Tryz.func120, by decide +kernel, rfl⟩
instance : FnB Tryz.prog 121 := ⟨_, Tryz.func121, by decide +kernel, rfl⟩
instance : FnB Tryz.prog 122 := ⟨_, Tryz.func122, by decide +kernel, rfl⟩
instance : FnB Tryz.prog 123 := ⟨_, Tryz.func123, by decide +kernel, rfl⟩
instance : FnB Tryz.prog 124 := ⟨_, Tryz.func124, by decide +kernel, rfl⟩
instance : FnB Tryz.prog 125 := ⟨_, Tryz.func125, by decide +kernel, rfl⟩
instance : FnB Tryz.prog 126 := ⟨_, Tryz.func126, by decide +kernel, rfl⟩
instance : FnB Tryz.prog 127 := ⟨_, Tryz.func127, by decide +kernel, rfl⟩
instance : FnB Tryz.prog 128 := ⟨_, Tryz.func128, by decide +kernel, rfl⟩
instance : FnB Tryz.prog 129 := ⟨_, Tryz.func129, by decide +kernel, rfl⟩
instance : FnB Tryz.prog 130 := ⟨_, Tryz.func130, by decide +kernel, rfl⟩
instance : FnB Tryz.prog 131 := ⟨_, Tryz.func131, by decide +kernel, rfl⟩
instance : FnB Tryz.prog 132 := ⟨_, Tryz.func132, by decide +kernel, rfl⟩
instance : FnB Tryz.prog 133 := ⟨_, Tryz.func133, by decide +kernel, rfl⟩
instance : FnB Tryz.prog 134 := ⟨_, Tryz.func134, by decide +kernel, rfl⟩
instance : FnB Tryz.prog 135 := ⟨_, Tryz.func135, by decide +kernel, rfl⟩
instance : FnB Tryz.prog 136 := ⟨_, Tryz.func136, by decide +kernel, rfl⟩
instance : FnB Tryz.prog 137 := ⟨_, Tryz.func137, by decide +kernel, rfl⟩
instance : FnB Tryz.prog 138 := ⟨_, Tryz.func138, by decide +kernel, rfl⟩
instance : FnB Tryz.prog 139 := ⟨_, Tryz.func139, by decide +kernel, rfl⟩
instance : FnB Tryz.prog 140 := ⟨_, Tryz.func140, by decide +kernel, rfl⟩
instance : FnB Tryz.prog 141 := ⟨_, Tryz.func141, by decide +kernel, rfl⟩
instance : FnB Tryz.prog 142 := ⟨_, Tryz.func142, by decide +kernel, rfl⟩
instance : FnB Tryz.prog 143 := ⟨_, Tryz.func143, by decide +kernel, rfl⟩
instance : FnB Tryz.prog 144 := ⟨_, Tryz.func144, by decide +kernel, rfl⟩
instance : FnB Tryz.prog 145 := ⟨_, Tryz.func145, by decide +kernel, rfl⟩
instance : FnB Tryz.prog 146 := ⟨_, Tryz.func146, by decide +kernel, rfl⟩
instance : FnB Tryz.prog 147 := ⟨_, Tryz.func147, by decide +kernel, rfl⟩
instance : FnB Tryz.prog 148 := ⟨_, Tryz.func148, by decide +kernel, rfl⟩
instance : FnB Tryz.prog 149 := ⟨_, Tryz.func149, by decide +kernel, rfl⟩
instance : FnB Tryz.prog 150 := ⟨_, Tryz.func150, by decide +kernel, rfl⟩
instance : FnB Tryz.prog 151 := ⟨_, Tryz.func151, by decide +kernel, rfl⟩
instance : FnB Tryz.prog 152 := ⟨_, Tryz.func152, by decide +kernel, rfl⟩
instance : FnB Tryz.prog 153 := ⟨_, Tryz.func153, by decide +kernel, rfl⟩
instance : FnB Tryz.prog 154 := ⟨_, Tryz.func154, by decide +kernel, rfl⟩
instance : FnB Tryz.prog 155 := ⟨_, Tryz.func155, by decide +kernel, rfl⟩
instance : FnB Tryz.prog 157 := ⟨_, Tryz.func157, by decide +kernel, rfl⟩
instance : FnB Tryz.prog 158 := ⟨_, Tryz.func158, by decide +kernel, rfl⟩
instance : FnB Tryz.prog 159 := ⟨_, Tryz.func159, by decide +kernel, rfl⟩
instance : FnB Tryz.prog 160 := ⟨_, Tryz.func160, by decide +kernel, rfl⟩
instance : FnB Tryz.prog 161 := ⟨_, Tryz.func161, by decide +kernel, rfl⟩
instance : FnB Tryz.prog 162 := ⟨_, Tryz.func162, by decide +kernel, rfl⟩
instance : FnB Tryz.prog 163 := ⟨_, Tryz.func163, by decide +kernel, rfl⟩
instance : FnB Tryz.prog 164 := ⟨_, Tryz.func164, by decide +kernel, rfl⟩
instance : FnB Tryz.prog 165 := ⟨_, Tryz.func165, by decide +kernel, rfl⟩
instance : FnB Tryz.prog 166 := ⟨_, Tryz.func166, by decide +kernel, rfl⟩
instance : FnB Tryz.prog 167 := ⟨_, Tryz.func167, by decide +kernel, rfl⟩
instance : FnB Tryz.prog 168 := ⟨_, Tryz.func168, by decide +kernel, rfl⟩
instance : FnB Tryz.prog 169 := ⟨_, Tryz.func169, by decide +kernel, rfl⟩
instance : FnB Tryz.prog 170 := ⟨_, Tryz.func170, by decide +kernel, rfl⟩
instance : FnB Tryz.prog 171 := ⟨_, Tryz.func171, by decide +kernel, rfl⟩
instance : FnB Tryz.prog 172 := ⟨_, Tryz.func172, by decide +kernel, rfl⟩
instance : FnB Tryz.prog 173 := ⟨_, Tryz.func173, by decide +kernel, rfl⟩
instance : FnB Tryz.prog 174 := ⟨_, Tryz.func174, by decide +kernel, rfl⟩
instance : FnB Tryz.prog 175 := ⟨_, Tryz.func175, by decide +kernel, rfl⟩
instance : FnB Tryz.prog 176 := ⟨_, Tryz.func176, by decide +kernel, rfl⟩
instance : FnB Tryz.prog 177 := ⟨_, Tryz.func177, by decide +kernel, rfl⟩
instance : FnB Tryz.prog 178 := ⟨_, Tryz.func178, by decide +kernel, rfl⟩
instance : FnB Tryz.prog 179 := ⟨_, Tryz.func179, by decide +kernel, rfl⟩
instance : FnB Tryz.prog 180 := ⟨_, Tryz.func180, by decide +kernel, rfl⟩
instance : FnB Tryz.prog 181 := ⟨_, Tryz.func181, by decide +kernel, rfl⟩
instance : FnB Tryz.prog 182 := ⟨_, Tryz.func182, by decide +kernel, rfl⟩
instance : FnB Tryz.prog 183 := ⟨_, Tryz.func183, by decide +kernel, rfl⟩
instance : FnB Tryz.prog 184 := ⟨_, Tryz.func184, by decide +kernel, rfl⟩
instance : FnB Tryz.prog 185 := ⟨_, Tryz.func185, by decide +kernel, rfl⟩
instance : FnB Tryz.prog 186 := ⟨_, Tryz.func186, by decide +kernel, rfl⟩
instance : FnB Tryz.prog 187 := ⟨_, Tryz.func187, by decide +kernel, rfl⟩
instance : FnB Tryz.prog 188 := ⟨_, Tryz.func188, by decide +kernel, rfl⟩
instance : FnB Tryz.prog 189 := ⟨_, Tryz.func189, by decide +kernel, rfl⟩
instance : FnOv Tryz.prog 156 76 := ⟨_, 4, Tryz.func156, by decide +kernel, rfl, by kernel_rfl, by kernel_rfl⟩
end Go.Proofs.YtoeckbdgemnngaaGreat
/- Graphs, their edges, and what the functions on them compute. No program in sight. -/
namespace Go.Pl
open Go.RT
set_option linter.all false
def cmpI (a b : Int) : Int := if a < b then -1 else if a > b then 1 else 0
instance (k : IntKind) (n : Int) : Decidable (inr k n) := by cases k <;> unfold inr <;> infer_instance
structure Edg where
 f : Int
 t : Int
 c : Int
 deriving DecidableEq
structure Gr where
 r : Int
 n : Int
 es : List Edg
 deriving DecidableEq
def encE (e : Edg) : List FV := [If .i64 e.f, If .i64 e.t, If .i64 e.c]
abbrev VE (l : List Edg) : FV := .vals 3 (l.map encE)
def encG (g : Gr) : List FV := [If .i64 g.r, If .i64 g.n, VE g.es]
def encN (x : Int) : List FV := [If .i64 x]
abbrev VI (l : List Int) : FV := .vals 1 (l.map encN)
def encB (x : Bool) : List FV := [Bf x]
def okE (e : Edg) : Prop := inr .i64 e.f ∧ inr .i64 e.t ∧ inr .i64 e.c
def okEs (l : List Edg) : Prop := ∀ e ∈ l, okE e
def okG (g : Gr) : Prop := inr .i64 g.r ∧ inr .i64 g.n ∧ okEs g.es
def ordE (a b : Edg) : Int := if cmpI a.f b.f ≠ 0 then cmpI a.f b.f else cmpI a.t b.t
def befB (a b : Edg) : Bool := decide (a.f < b.f) || decide (a.f = b.f) && decide (a.t < b.t)
theorem ordE_ge (a b : Edg) : decide (0 ≤ ordE a b) = !befB a b := by
 rw [Bool.eq_iff_iff]
 unfold ordE cmpI befB
 simp only [decide_eq_true_eq, Bool.not_eq_true', Bool.or_eq_false_iff, decide_eq_false_iff_not, Bool.and_eq_false_iff]
 by_cases h1 : a.f < b.f
 ·simp [h1]
 by_cases h2 : a.f > b.f
 ·have : ¬ a.f = b.f := by omega
  simp [h1, h2, this]
 have : a.f = b.f := by omega
 simp [this]
 by_cases h3 : a.t < b.t
 ·simp [h3]
 by_cases h4 : a.t > b.t <;> simp [h3, h4] <;> omega
def szOk (g : Gr) : Prop := 0 ≤ g.r ∧ 0 ≤ g.n ∧ g.r + g.n ≤ 128
def sizeI (g : Gr) : Int := if g.r < 0 ∨ g.n < 0 then 5 else if g.r > 128 ∨ g.n > 128 ∨ g.r + g.n > 128 ∨ 1024 < g.es.length then 4 else 0
def nodeB (g : Gr) (x : Int) : Bool := decide (0 ≤ x) && decide (x < g.r + g.n)
def alwI (g : Gr) (e : Edg) : Int := if nodeB g e.f = false ∨ nodeB g e.t = false then 5 else
 if e.f = e.t ∨ (g.r ≤ e.f ∧ g.r ≤ e.t) ∨ (g.r ≤ e.f ∧ e.c ≠ 0) ∨ (e.f < g.r ∧ (e.c < 1 ∨ 65535 < e.c)) then 1 else 0
theorem sizeI_ok {g : Gr} (h : sizeI g = 0) : szOk g ∧ g.es.length ≤ 1024 := by
 unfold sizeI at h
 by_cases h1 : g.r < 0 ∨ g.n < 0
 ·rw [if_pos h1] at h; cases h
 rw [if_neg h1] at h
 by_cases h2 : g.r > 128 ∨ g.n > 128 ∨ g.r + g.n > 128 ∨ 1024 < g.es.length
 ·rw [if_pos h2] at h; cases h
 exact ⟨⟨by omega, by omega, by omega⟩, by omega⟩
def badP : Option Edg → Edg → Bool
 | some q, e => !befB q e
 | none, _ => false
def chkL (g : Gr) : Option Edg → List Edg → Int
 | _, [] => 0
 | p, e :: l => if alwI g e ≠ 0 then alwI g e else if badP p e = true then 16 else chkL g (some e) l
def checkI (g : Gr) : Int := if sizeI g ≠ 0 then sizeI g else chkL g none g.es
def prevO (l : List Edg) (i : Nat) : Option Edg := if i = 0 then none else l[i - 1]?
theorem prevO_succ {l : List Edg} {i : Nat} (h : i < l.length) : prevO l (i + 1) = some l[i] := by simp [prevO, h]
/-- one round of the check -/
theorem chk_step {g : Gr} {l : List Edg} {i : Nat} (h : i < l.length) : chkL g (prevO l i) (l.drop i) = if alwI g l[i] ≠ 0 then alwI g l[i] else if badP (prevO l i) l[i] = true then 16 else chkL g (prevO l (i + 1)) (l.drop (i + 1)) := by
 rw [List.drop_eq_getElem_cons h, prevO_succ h]; rfl
theorem row_at' {α : Type} (f : α → List FV) (l : List α) (i : Nat) (h : i < l.length) : (l.map f)[i]? = some (f l[i]) := by simp [h]
theorem take_len_eq' {α : Type} {l : List α} {i : Nat} (h : i = l.length) : l.take i = l := by subst h; exact List.take_length
end Go.Pl
namespace Go.Pl
def orI : List Int → Int
  | [] => 0
  | x :: l => if x ≠ 0 then x else orI l
end Go.Pl
namespace Go.Proofs.YtoeckbdgemnngaaGreat
open Go Go.RT Go.Proofs Go.Pl
set_option linter.all false
set_option maxRecDepth 20000
set_option maxHeartbeats 4000000
theorem wHI1a {α : Prop} (h : α := by repeat (first | exact trivial | refine ⟨⟨_, rfl, .inl ⟨rfl, rfl⟩⟩, ?_⟩)) : α := h
theorem wHI1b {α : Prop} (h : α := by repeat (first | exact trivial | refine ⟨wS, ?_⟩ | refine ⟨ent_same rfl rfl (rfEq rfl tU) tL, ?_⟩ | refine ⟨ent_same rfl rfl (flEq rfl (by first | (simp; done) | (simp; omega) | (simp [encP]; done) | simp [maxC, minC])) trivial, ?_⟩)) : α := h
theorem nan_c (a : Int) : Pure Tryz.prog 62 [If .i64 a] (Bf false) := by
 rw [show (false) = decide (a ≠ a) by simp]
 refine Meets.intro Tryz.func62 rfl (Nat.le_of_ble_eq_true rfl) fun C hC => ?_
 simp only [List.map, argEnv, Nat.reduceAdd]
 refine nK ?_
 refine za ?_
 refine ze ?_
 refine zb ?_
 refine nK ?_
 refine za ?_
 refine zc ?_
 refine zc ?_
 refine zbk ?_
 refine zd ?_
 refine zb ?_
 refine nK ?_
 exact wO hC
theorem cmp_c (a b : Int) : Pure Tryz.prog 34 [If .i64 a, If .i64 b] (If .i64 (cmpI a b)) := by
 refine Meets.intro Tryz.func34 rfl (Nat.le_of_ble_eq_true rfl) fun C hC => ?_
 simp only [List.map, argEnv, Nat.reduceAdd]
 refine nK ?_
 refine za ?_
 refine ze ?_
 refine zb ?_
 refine nK ?_
 refine za ?_
 refine zc ?_
 refine rpZ 8 rfl (op_call_pure (fun _ => nan_c _) rfl (Opd.func _) (oS (oT rfl) Opds.nil)) ?_
 refine zd ?_
 refine zb ?_
 refine nK ?_
 refine za ?_
 refine zc ?_
 refine rpZ 10 rfl (op_call_pure (fun _ => nan_c _) rfl (Opd.func _) (oS (oT rfl) Opds.nil)) ?_
 refine zd ?_
 refine zb ?_
 refine nK ?_
 refine za ?_
 refine zc ?_
 refine zb ?_
 refine nK ?_
 refine n_cond _ rfl (fun hb => ?_) (fun hb => ?_)
 ·cases hb
 refine nK ?_
 refine za ?_
 refine zc ?_
 refine zb ?_
 refine nK ?_
 refine n_cond _ rfl (fun hb => ?_) (fun hb => ?_)
 ·cases hb
 unfold cmpI
 refine nK ?_
 refine za ?_
 refine zc ?_
 refine zc ?_
 refine zn ?_
 refine zb ?_
 refine nK ?_
 refine n_cond _ rfl (fun hb => ?_) (fun hb => ?_)
 ·rw [if_pos (by simpa using hb)]
  refine nK ?_
  refine za ?_
  refine ze ?_
  refine zb ?_
  refine nK ?_
  exact wO hC
 rw [if_neg (by simpa using hb)]
 refine nK ?_
 refine za ?_
 refine zc ?_
 refine zc ?_
 refine zbz ?_
 refine zb ?_
 refine nK ?_
 refine n_cond _ rfl (fun hb => ?_) (fun hb => ?_)
 ·rw [if_pos (by simpa using hb)]
  refine nK ?_
  refine za ?_
  refine ze ?_
  refine zb ?_
  refine nK ?_
  exact wO hC
 rw [if_neg (by simpa using hb)]
 refine nK ?_
 refine za ?_
 refine ze ?_
 refine zb ?_
 refine nK ?_
 exact wO hC
theorem or_c (l : List Int) (hn : l.length ≤ 1000000) : Pure Tryz.prog 33 [VI l] (If .i64 (orI l)) := by
 refine Meets.intro Tryz.func33 rfl (Nat.le_of_ble_eq_true rfl) fun C hC => ?_
 simp only [List.map, argEnv, Nat.reduceAdd]
 refine nK ?_
 refine za ?_
 refine ze ?_
 refine zb ?_
 refine nK ?_
 refine za ?_
 refine ze ?_
 refine zb ?_
 refine nK ?_
 refine za ?_
 refine zc ?_
 refine zk ?_
 refine zx ?_
 refine zb ?_
 refine nK ?_
 refine n_loop (ι := Nat) (fun i => ([(3, IV .i64 0), (6, .fz (VI l)), (7, IV .i64 l.length), (8, IV .i64 i)], [], 0)) (fun i => i ≤ l.length ∧ orI (l.drop i) = orI l) (fun i => l.length - i) 0 ⟨Nat.zero_le _, rfl⟩ ?_ ?_
 ·refine Next.weak [] [] (by rfl) (keeps0 hC _) wHI1a wHI1b wN rel_intro
 intro i ⟨hi, ho⟩ K hK
 refine nK ?_
 refine za ?_
 refine zn ?_
 refine zb ?_
 refine nK ?_
 refine n_cond _ rfl (fun hb => ?_) (fun hb => ?_)
 ·have hlt : i < l.length := by simp at hb; omega
  have hr1 := row_at' encN l i hlt
  rw [List.drop_eq_getElem_cons hlt] at ho
  simp only [orI] at ho
  have hK1 := fun h => hK (i + 1) ⟨by omega, h⟩ (by omega)
  generalize l[i] = x at *
  refine nK ?_
  refine za ?_
  refine zr ?_
  refine zt ?_
  refine zd ?_
  refine zb ?_
  refine nK ?_
  refine za ?_
  refine zc ?_
  refine zc ?_
  refine zbk ?_
  refine zb ?_
  refine nK ?_
  refine n_cond _ rfl (fun hb => ?_) (fun hb => ?_)
  ·rw [if_pos (by simpa using hb)] at ho
   rw [← ho]
   refine nK ?_
   refine za ?_
   refine zc ?_
   refine zd ?_
   refine zb ?_
   refine nK ?_
   exact wO hC
  rw [if_neg (by simpa using hb)] at ho
  refine nK ?_
  refine za ?_
  refine zj ?_
  refine zc ?_
  refine zb ?_
  refine nK ?_
  refine Next.weak [] [] (by rfl) (keeps0 hC _) wHI1a wHI1b wN (hK1 ho)
 have hie : i = l.length := by simp at hb; omega
 rw [hie, List.drop_length] at ho
 rw [← ho]
 refine nK ?_
 refine za ?_
 refine zc ?_
 refine zd ?_
 refine zb ?_
 refine nK ?_
 exact wO hC
theorem order_c (a b : Edg) : Pure Tryz.prog 114 [.agg (encE a), .agg (encE b)] (If .i64 (ordE a b)) := by
 have e : ordE a b = orI [cmpI a.f b.f, cmpI a.t b.t] := by
  unfold ordE orI
  simp only [orI]
  by_cases h : cmpI a.f b.f = 0
  ·by_cases h2 : cmpI a.t b.t = 0 <;> simp [h, h2]
  simp [h]
 have ho := or_c [cmpI a.f b.f, cmpI a.t b.t] (by simp)
 rw [← e] at ho
 refine Meets.intro Tryz.func114 rfl (Nat.le_of_ble_eq_true rfl) fun C hC => ?_
 simp only [List.map, argEnv, Nat.reduceAdd]
 refine nK ?_
 refine za ?_
 refine zu ?_
 refine zu ?_
 refine ze ?_
 refine zb ?_
 refine nK ?_
 refine s_draw mixed ?_
 refine zf ?_
 refine zh ?_
 refine zf ?_
 refine zh ?_
 refine rpZ 9 rfl (op_call_pure (fun _ => cmp_c _ _) rfl (Opd.func _) (oS (oT rfl) (oS (oT rfl) Opds.nil))) ?_
 refine zf ?_
 refine zh ?_
 refine zf ?_
 refine zh ?_
 refine rpZ 14 rfl (op_call_pure (fun _ => cmp_c _ _) rfl (Opd.func _) (oS (oT rfl) (oS (oT rfl) Opds.nil))) ?_
 refine zcw ?_
 refine rpZ 16 rfl (op_call_pure (fun _ => ho) rfl (Opd.func _) (oS (oT rfl) Opds.nil)) ?_
 refine zd ?_
 refine zq ?_
 refine nK ?_
 exact wO hC
theorem size_c (g : Gr) (hg : okG g) : Pure Tryz.prog 117 [.agg (encG g)] (If .i64 (sizeI g)) := by
 obtain ⟨g1, g2, g3⟩ := hg
 simp only [inr] at g1 g2
 unfold sizeI
 refine Meets.intro Tryz.func117 rfl (Nat.le_of_ble_eq_true rfl) fun C hC => ?_
 simp only [List.map, argEnv, Nat.reduceAdd]
 refine nK ?_
 refine za ?_
 refine zu ?_
 refine ze ?_
 refine zb ?_
 refine nK ?_
 refine za ?_
 refine zf ?_
 refine zh ?_
 refine zbq ?_
 refine zc ?_
 refine zp ?_
 refine zs ?_
 refine zct ?_
 refine zbd ?_
 refine zd ?_
 refine zb ?_
 refine nK ?_
 refine n_cond _ rfl (fun hb => ?_) (fun hb => ?_)
 ·rw [if_pos (by simpa using hb)]
  refine nK ?_
  refine za ?_
  refine ze ?_
  refine zb ?_
  refine nK ?_
  exact wO hC
 rw [if_neg (by simp at hb; omega)]
 have h0 : 0 ≤ g.r ∧ 0 ≤ g.n := by simp at hb; omega
 refine nK ?_
 refine za ?_
 refine zf ?_
 refine zh ?_
 refine zbu ?_
 refine zc ?_
 refine zp ?_
 refine zs ?_
 refine zbo ?_
 refine zbd ?_
 refine zc ?_
 refine zp ?_
 refine zs ?_
 refine zp ?_
 refine zs ?_
 refine zdw ?_
 refine zbo ?_
 refine zbd ?_
 refine zc ?_
 refine zp ?_
 refine zs ?_
 refine zci ?_
 refine zbo ?_
 refine zbd ?_
 refine zd ?_
 refine zb ?_
 refine nK ?_
 refine n_cond _ rfl (fun hb => ?_) (fun hb => ?_)
 ·rw [if_pos (by simp at hb; omega)]
  refine nK ?_
  refine za ?_
  refine ze ?_
  refine zb ?_
  refine nK ?_
  exact wO hC
 rw [if_neg (by simp at hb; omega)]
 refine nK ?_
 refine za ?_
 refine ze ?_
 refine zb ?_
 refine nK ?_
 exact wO hC
theorem isnode_c (g : Gr) (x : Int) (hs : szOk g) : Pure Tryz.prog 146 [.agg (encG g), If .i64 x] (Bf (nodeB g x)) := by
 obtain ⟨h1, h2, h3⟩ := hs
 refine Meets.intro Tryz.func146 rfl (Nat.le_of_ble_eq_true rfl) fun C hC => ?_
 simp only [List.map, argEnv, Nat.reduceAdd]
 refine nK ?_
 refine za ?_
 refine zu ?_
 refine ze ?_
 refine zb ?_
 refine nK ?_
 refine za ?_
 refine zc ?_
 refine zcg ?_
 refine zc ?_
 refine zl ?_
 refine zp ?_
 refine zs ?_
 refine zp ?_
 refine zs ?_
 refine zdw ?_
 refine zcv ?_
 refine zy ?_
 refine zd ?_
 refine zb ?_
 refine nK ?_
 exact wO hC
theorem allowed_c (g : Gr) (e : Edg) (hs : szOk g) : Pure Tryz.prog 118 [.agg (encG g), .agg (encE e)] (If .i64 (alwI g e)) := by
 unfold alwI
 refine Meets.intro Tryz.func118 rfl (Nat.le_of_ble_eq_true rfl) fun C hC => ?_
 simp only [List.map, argEnv, Nat.reduceAdd]
 refine nK ?_
 refine za ?_
 refine zu ?_
 refine zu ?_
 refine ze ?_
 refine zb ?_
 refine nK ?_
 refine za ?_
 refine ze ?_
 refine ze ?_
 refine zb ?_
 refine nK ?_
 refine za ?_
 refine zf ?_
 refine zh ?_
 refine zf ?_
 refine zh ?_
 refine zdt ?_
 refine zb ?_
 refine nK ?_
 refine n_cond _ rfl (fun hb => ?_) (fun hb => ?_)
 ·have h0 : g.r ≤ e.f := by simpa using hb
  refine nK ?_
  refine za ?_
  refine ze ?_
  refine ze ?_
  refine zb ?_
  refine nK ?_
  refine za ?_
  refine zm ?_
  refine zf ?_
  refine zh ?_
  refine rpZ 16 rfl (op_call_pure (fun _ => isnode_c _ _ (by assumption)) rfl (Opd.func _) (oS (oT rfl) (oS (oT rfl) Opds.nil))) ?_
  refine zbj ?_
  refine zc ?_
  refine zby ?_
  refine zp ?_
  refine zs ?_
  refine rgZ 22 rfl rfl tG (op_call_pure (fun _ => isnode_c _ _ (by assumption)) rfl (Opd.func _) (oS (oO rfl tO) (oS (oO rfl tO) Opds.nil))) ?_
  refine zca ?_
  refine zbd ?_
  refine zd ?_
  refine zb ?_
  refine nK ?_
  refine n_cond _ rfl (fun hb => ?_) (fun hb => ?_)
  ·rw [if_pos (by simpa using hb)]
   refine nK ?_
   refine za ?_
   refine ze ?_
   refine zb ?_
   refine nK ?_
   exact wO hC
  rw [if_neg (by simpa using hb)]
  refine nK ?_
  refine za ?_
  refine zf ?_
  refine zh ?_
  refine zf ?_
  refine zh ?_
  refine zbx ?_
  refine zc ?_
  refine zp ?_
  refine zs ?_
  refine zp ?_
  refine zs ?_
  refine zdr ?_
  refine zce ?_
  refine zp ?_
  refine zs ?_
  refine zp ?_
  refine zs ?_
  refine zdr ?_
  refine zco ?_
  refine zbd ?_
  refine zc ?_
  refine zp ?_
  refine zs ?_
  refine zl ?_
  refine zcv ?_
  refine zbd ?_
  refine zc ?_
  refine zp ?_
  refine zs ?_
  refine zl ?_
  refine zcj ?_
  refine zbd ?_
  refine zd ?_
  refine zb ?_
  refine nK ?_
  refine n_cond _ rfl (fun hb => ?_) (fun hb => ?_)
  ·rw [if_pos (by simp at hb; omega)]
   refine nK ?_
   refine za ?_
   refine ze ?_
   refine zb ?_
   refine nK ?_
   exact wO hC
  rw [if_neg (by simp at hb; omega)]
  refine nK ?_
  refine za ?_
  refine ze ?_
  refine zb ?_
  refine nK ?_
  exact wO hC
 have h0 : ¬ g.r ≤ e.f := by simpa using hb
 refine nK ?_
 refine za ?_
 refine zm ?_
 refine zf ?_
 refine zh ?_
 refine rpZ 16 rfl (op_call_pure (fun _ => isnode_c _ _ (by assumption)) rfl (Opd.func _) (oS (oT rfl) (oS (oT rfl) Opds.nil))) ?_
 refine zbj ?_
 refine zc ?_
 refine zby ?_
 refine zp ?_
 refine zs ?_
 refine rgZ 22 rfl rfl tG (op_call_pure (fun _ => isnode_c _ _ (by assumption)) rfl (Opd.func _) (oS (oO rfl tO) (oS (oO rfl tO) Opds.nil))) ?_
 refine zca ?_
 refine zbd ?_
 refine zd ?_
 refine zb ?_
 refine nK ?_
 refine n_cond _ rfl (fun hb => ?_) (fun hb => ?_)
 ·rw [if_pos (by simpa using hb)]
  refine nK ?_
  refine za ?_
  refine ze ?_
  refine zb ?_
  refine nK ?_
  exact wO hC
 rw [if_neg (by simpa using hb)]
 refine nK ?_
 refine za ?_
 refine zf ?_
 refine zh ?_
 refine zf ?_
 refine zh ?_
 refine zbx ?_
 refine zc ?_
 refine zp ?_
 refine zs ?_
 refine zp ?_
 refine zs ?_
 refine zdr ?_
 refine zce ?_
 refine zp ?_
 refine zs ?_
 refine zp ?_
 refine zs ?_
 refine zdr ?_
 refine zco ?_
 refine zbd ?_
 refine zc ?_
 refine zp ?_
 refine zs ?_
 refine zl ?_
 refine zcv ?_
 refine zbd ?_
 refine zc ?_
 refine zp ?_
 refine zs ?_
 refine zl ?_
 refine zcj ?_
 refine zbd ?_
 refine zd ?_
 refine zb ?_
 refine nK ?_
 refine n_cond _ rfl (fun hb => ?_) (fun hb => ?_)
 ·rw [if_pos (by simp at hb; omega)]
  refine nK ?_
  refine za ?_
  refine ze ?_
  refine zb ?_
  refine nK ?_
  exact wO hC
 rw [if_neg (by simp at hb; omega)]
 refine nK ?_
 refine za ?_
 refine ze ?_
 refine zb ?_
 refine nK ?_
 exact wO hC
end Go.Proofs.YtoeckbdgemnngaaGreat
/- Lists of edges and numbers: what the reference's loops compute. -/
namespace Go.Pl
open Go.RT
set_option linter.all false
end Go.Pl
namespace Go.Proofs.YtoeckbdgemnngaaGreat
open Go Go.RT Go.Proofs Go.Pl
set_option linter.all false
set_option maxRecDepth 20000
set_option maxHeartbeats 4000000
theorem wHI2a {α : Prop} (h : α := by repeat (first | exact trivial | refine ⟨wS, ?_⟩ | refine ⟨ent_same rfl rfl (rfEq rfl tU) tL, ?_⟩ | refine ⟨ent_same rfl rfl (flEq rfl (by first | (simp; done) | (simp; omega) | (simp [encE]; done) | simp [maxC, minC])) trivial, ?_⟩)) : α := h
abbrev OG (g : Gr) : Option Ob := some (.flat 3 [encG g])
theorem prev_row {l : List Edg} {i : Nat} (h0 : 0 < i) (h : i ≤ l.length) : ∃ q, prevO l i = some q ∧ (l.map encE)[i - 1]? = some (encE q) := by
 have h1 : i - 1 < l.length := by omega
 exact ⟨l[i - 1], by simp [prevO, h1]; omega, row_at' encE l (i - 1) h1⟩
theorem check_c (g : Gr) (hg : okG g) : Pure Tryz.prog 77 [.agg (encG g)] (If .i64 (checkI g)) := by
 unfold checkI
 refine Meets.intro Tryz.func77 rfl (Nat.le_of_ble_eq_true rfl) fun C hC => ?_
 simp only [List.map, argEnv, Nat.reduceAdd]
 refine nK ?_
 refine za ?_
 refine zu ?_
 refine ze ?_
 refine zb ?_
 refine nK ?_
 refine za ?_
 refine zm ?_
 refine rpZ 8 rfl (op_call_pure (fun _ => size_c _ (by assumption)) rfl (Opd.func _) (oS (oT rfl) Opds.nil)) ?_
 refine zd ?_
 refine zb ?_
 refine nK ?_
 refine za ?_
 refine zc ?_
 refine zbe ?_
 refine zb ?_
 refine nK ?_
 refine n_cond _ rfl (fun hb => ?_) (fun hb => ?_)
 ·rw [if_pos (by simpa using hb)]
  refine nK ?_
  refine za ?_
  refine zc ?_
  refine zd ?_
  refine zb ?_
  refine nK ?_
  exact wO hC
 have hz : sizeI g = 0 := by simpa using hb
 rw [if_neg (by simp [hz])]
 obtain ⟨hs, hlen⟩ := sizeI_ok hz
 refine nK ?_
 refine za ?_
 refine zf ?_
 refine zh ?_
 refine zk ?_
 refine zx ?_
 refine zb ?_
 refine nK ?_
 refine n_loop (ι := Nat) (fun i => ([(1, .ptr 0 3 0 0), (13, .fz (VE g.es)), (14, IV .i64 g.es.length), (15, IV .i64 i)], [(0, OG g)], 1)) (fun i => i ≤ g.es.length ∧ chkL g (prevO g.es i) (g.es.drop i) = chkL g none g.es) (fun i => g.es.length - i) 0 ⟨Nat.zero_le _, rfl⟩ ?_ ?_
 ·refine Next.weakS [1] [] (by rfl) (wK hC) wG wHI2a rfl (rel_intro)
 intro i ⟨hi, ho⟩ K hK
 refine nK ?_
 refine za ?_
 refine zn ?_
 refine zb ?_
 refine nK ?_
 refine n_cond _ rfl (fun hb => ?_) (fun hb => ?_)
 ·have hlt : i < g.es.length := by simp at hb; omega
  have hr1 := row_at' encE g.es i hlt
  rw [chk_step hlt] at ho
  have hK1 := fun h => hK (i + 1) ⟨by omega, h⟩ (by omega)
  refine nK ?_
  refine za ?_
  refine zc ?_
  refine zr ?_
  refine zv ?_
  refine zo ?_
  refine zd ?_
  refine zg ?_
  refine zb ?_
  refine nK ?_
  refine za ?_
  refine zm ?_
  refine zm ?_
  refine rpZ 22 rfl (op_call_pure (fun _ => allowed_c _ _ (by assumption)) rfl (Opd.func _) (oS (oT rfl) (oS (oT rfl) Opds.nil))) ?_
  refine zd ?_
  refine zb ?_
  refine nK ?_
  refine za ?_
  refine zc ?_
  refine zbe ?_
  refine zb ?_
  refine nK ?_
  refine n_cond _ rfl (fun hb => ?_) (fun hb => ?_)
  ·have ha : alwI g g.es[i] ≠ 0 := by simpa using hb
   rw [if_pos ha] at ho
   rw [← ho]
   refine nK ?_
   refine za ?_
   refine zc ?_
   refine zd ?_
   refine zb ?_
   refine nK ?_
   exact wO hC
  have ha : ¬ alwI g g.es[i] ≠ 0 := by simpa using hb
  rw [if_neg ha] at ho
  have hp : ∃ q, (0 < i → prevO g.es i = some q ∧ (g.es.map encE)[i - 1]? = some (encE q)) := by
   by_cases h0 : 0 < i
   ·obtain ⟨q, h1, h2⟩ := prev_row h0 hi
    exact ⟨q, fun _ => ⟨h1, h2⟩⟩
   exact ⟨⟨0, 0, 0⟩, fun h => absurd h h0⟩
  obtain ⟨q, hq⟩ := hp
  refine nK ?_
  refine s_draw mixed ?_
  refine zc ?_
  refine zbu ?_
  refine zc ?_
  refine zp ?_
  refine zs ?_
  refine zl ?_
  refine zcf ?_
  refine rgZ 33 rfl rfl tG (op_idx_fz (i - 1) rfl (oO rfl tO) (oO rfl tO) (by intro hg; have h0 : 0 < i := (by simp at hg; omega); exact ⟨by omega, (hq h0).2⟩)) ?_
  refine zdv ?_
  refine zby ?_
  refine rgZ 36 rfl rfl tG (op_call_pure (fun _ => order_c _ _) rfl (Opd.func _) (oS (oO rfl tO) (oS (oO rfl tO) Opds.nil))) ?_
  refine zds ?_
  refine zy ?_
  refine zq ?_
  refine nK ?_
  refine n_cond _ rfl (fun hb => ?_) (fun hb => ?_)
  ·have h0 : 0 < i := by simp at hb; omega
   rw [(hq h0).1, if_pos (by rw [ordE_ge] at hb; simp at hb; simpa [badP] using hb.2)] at ho
   rw [← ho]
   refine nK ?_
   refine za ?_
   refine ze ?_
   refine zb ?_
   refine nK ?_
   exact wO hC
  have hc : ¬ badP (prevO g.es i) g.es[i] = true := by
   by_cases h0 : 0 < i
   ·rw [(hq h0).1]; rw [ordE_ge] at hb; simp [h0, badP] at hb ⊢; exact hb
   have : i = 0 := by omega
   subst this; simp [prevO, badP]
  rw [if_neg hc] at ho
  refine nK ?_
  refine za ?_
  refine zj ?_
  refine zc ?_
  refine zb ?_
  refine nK ?_
  refine Next.weakS [1] [] (by rfl) (wK hC) wG wHI2a rfl ((hK1 ho))
 have hie : i = g.es.length := by simp at hb; omega
 rw [hie, List.drop_length] at ho
 rw [← ho]
 simp only [chkL]
 refine nK ?_
 refine za ?_
 refine ze ?_
 refine zb ?_
 refine nK ?_
 exact wO hC
open Go Go.RT Go.Proofs Go.Pl
set_option maxRecDepth 20000
set_option maxHeartbeats 4000000
abbrev OI (l : List Int) : Option Ob := some (.flat 1 (l.map encN))
abbrev OE (l : List Edg) : Option Ob := some (.flat 3 (l.map encE))
theorem same_step {α : Type} [DecidableEq α] {a b : List α} {i : Nat} (ha : i < a.length) (hb : i < b.length) : (a.drop i = b.drop i) ↔ a[i] = b[i] ∧ a.drop (i + 1) = b.drop (i + 1) := by
 rw [List.drop_eq_getElem_cons ha, List.drop_eq_getElem_cons hb, List.cons.injEq]
end Go.Proofs.YtoeckbdgemnngaaGreat
/- Runs of equal elements cut to one. -/
namespace Go.Pl
set_option linter.all false
def ddF {α : Type} (eq : α → α → Bool) : α → List α → List α
  | _, [] => []
  | p, x :: l => bif eq x p then ddF eq x l else x :: ddF eq x l
def compL {α : Type} (eq : α → α → Bool) : List α → List α
  | [] => []
  | x :: l => x :: ddF eq x l
def lastD {α : Type} : α → List α → α
  | p, [] => p
  | _, x :: l => lastD x l
theorem ddF_snoc {α : Type} (eq : α → α → Bool) (y : α) : ∀ (l : List α) (p : α), ddF eq p (l ++ [y]) = ddF eq p l ++ bif eq y (lastD p l) then [] else [y]
  | [], p => by simp [ddF, lastD]
  | x :: l, p => by
    simp only [List.cons_append, ddF, lastD, ddF_snoc eq y l x]
    cases eq x p <;> simp
theorem lastD_get {α : Type} : ∀ (l : List α) (p : α) , (p :: l)[l.length]? = some (lastD p l)
  | [], p => rfl
  | x :: l, p => by simpa [lastD] using lastD_get l x
theorem ddF_len {α : Type} (eq : α → α → Bool) : ∀ (l : List α) (p : α), (ddF eq p l).length ≤ l.length
  | [], _ => by simp [ddF]
  | x :: l, p => by
    have := ddF_len eq l x
    simp only [ddF, List.length_cons]; cases eq x p <;> simp <;> omega
theorem compL_len {α : Type} (eq : α → α → Bool) (l : List α) : (compL eq l).length ≤ l.length := by
  cases l with
  | nil => simp [compL]
  | cons x l => have := ddF_len eq l x; simp [compL]; omega
/-- one element more -/
theorem compL_take {α : Type} (eq : α → α → Bool) (l : List α) (n : Nat) (h0 : 0 < n) (h : n < l.length) : compL eq (l.take (n + 1)) = compL eq (l.take n) ++ bif eq l[n] l[n - 1] then [] else [l[n]] := by
  cases l with
  | nil => simp at h
  | cons x l =>
    obtain ⟨m, rfl⟩ : ∃ m, n = m + 1 := ⟨n - 1, by omega⟩
    have hm : m < l.length := by simpa using h
    rw [List.take_succ_cons, List.take_succ_cons]
    simp only [compL]
    rw [List.take_succ_eq_append_getElem hm, ddF_snoc]
    have hl : lastD x (l.take m) = (x :: l)[m]'(by simp; omega) := by
      have h1 := lastD_get (l.take m) x
      have e : (l.take m).length = m := by simp; omega
      rw [e, ← List.take_succ_cons, List.getElem?_take, if_pos (by omega), List.getElem?_eq_getElem (by simp; omega)] at h1
      exact (Option.some.inj h1).symm
    rw [hl]
    simp
theorem compL_len_lt {α : Type} (eq : α → α → Bool) (l : List α) (n : Nat) (h0 : 0 < n) (h : n < l.length) (he : eq l[n] l[n - 1] = true) (j : Nat) (hj : n < j) (hjl : j ≤ l.length) : (compL eq (l.take j)).length < j := by
  obtain ⟨d, rfl⟩ : ∃ d, j = n + 1 + d := ⟨j - (n + 1), by omega⟩
  clear hj
  induction d with
  | zero =>
    rw [Nat.add_zero, compL_take eq l n h0 h, he, cond_true, List.append_nil]
    have := compL_len eq (l.take n)
    simp at this; omega
  | succ d ih =>
    have := ih (by omega)
    rw [← Nat.add_assoc, compL_take eq l (n + 1 + d) (by omega) (by omega), List.length_append]
    cases eq l[n + 1 + d] l[n + 1 + d - 1] <;> simp <;> omega
theorem compL_one {α : Type} (eq : α → α → Bool) (l : List α) (h : 0 < l.length) : compL eq (l.take 1) = l.take 1 := by
  cases l with
  | nil => simp at h
  | cons x l => simp [compL, ddF]
/-- writing at the end of what is kept -/
theorem set_kept {α : Type} (c l : List α) (x : α) (h : c.length < l.length) : (c ++ l.drop c.length).set c.length x = (c ++ [x]) ++ l.drop (c ++ [x]).length := by
  have e := List.drop_eq_getElem_cons h
  rw [List.set_append, if_neg (by omega), Nat.sub_self, e, List.set_cons_zero]
  simp
theorem kept_get {α : Type} (c l : List α) (j : Nat) (h : c.length ≤ j) : (c ++ l.drop c.length)[j]? = l[j]? := by
  rw [List.getElem?_append, if_neg (by omega), List.getElem?_drop]; congr 1; omega
theorem kept_len {α : Type} (c l : List α) (h : c.length ≤ l.length) : (c ++ l.drop c.length).length = l.length := by simp; omega
end Go.Pl
