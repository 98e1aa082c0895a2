/- A part of the proof: SRT, T15, LayC, T16, T17, S4, T18, T19, S5, T20, RT19, T21, S6, S7, S8, T22. -/
import Derived.Test.YtdebjffddkgfbaaZC
import Derived.Shelf.SlSortCmp.NoneTotal
import Derived.Shelf.SlLaysF0
import Derived.Ground.SlsfProg
set_option linter.all false
/- The kit's contract of slices.SortFunc, turned into one of the engine's. -/
namespace Go.RT
open Go Go.Proofs Go.Sort Go.Shelf
set_option linter.all false
theorem Mem.reheap {C : Cx} {H H' : Hp} {nx : Nat} {S : Nat → Prop} {m : Ids} {w : World} (k1 : Mem C H nx S m w) (hh : ∀ id, hlook H' id = hlook H id) : Mem C H' nx S m w :=
  ⟨k1.os, k1.tape, k1.output, k1.fz, k1.size, k1.frame, k1.le, k1.sub, k1.n0, fun id o h => k1.objs id o ((hh id).symm.trans h), fun id o b h => k1.blk id o b ((hh id).symm.trans h), fun a b o1 o2 bb h1 h2 => k1.inj a b o1 o2 bb ((hh a).symm.trans h1) ((hh b).symm.trans h2), k1.stab, k1.fresh⟩
def grown (w : World) (os : Array Obj) (q : Nat) : World := { w with heap := w.heap ++ os, drawn := w.drawn + q }
theorem grown_old (w : World) (os : Array Obj) (q : Nat) {b : Nat} (hb : b < w.heap.size) : (grown w os q).heap[b]? = w.heap[b]? := by simp [grown, Array.getElem?_append, hb]
theorem Mem.grow {C : Cx} {H : Hp} {nx : Nat} {S : Nat → Prop} {m : Ids} {w : World} (hm : Mem C H nx S m w) (os : Array Obj) (q : Nat) : Mem C H nx S m (grown w os q) ∧ Le S m w S m (grown w os q) := by
  have hsz : w.heap.size ≤ (grown w os q).heap.size := by simp [grown]
  have hle : Le S m w S m (grown w os q) := by
    refine ⟨fun _ h => h, fun b hb => grown_old w os q (hm.stab b hb), fun _ _ h => h, fun b n ⟨c, e, fr, h1, h2⟩ => ⟨c, e, fr, ?_, h2⟩⟩
    rw [grown_old w os q (Array.getElem?_eq_some_iff.1 h1).1]; exact h1
  refine ⟨hm.step hle ⟨rfl, Nat.le_add_right _ _⟩ rfl rfl (fun a ha => ?_) hsz (fun b hb _ => grown_old w os q (Nat.lt_of_lt_of_le hb hm.size)) (fun b hb => .inl hb) (fun id o ho => (hm.objs id o ho).mono hle fun b hb => grown_old w os q (hm.blk id o b ho hb).2.1)
    (fun id o b ho hb => ?_) hm.inj (fun b hb => Nat.lt_of_lt_of_le (hm.stab b hb) hsz) hm.fresh, hle⟩
  · simp only [World.frozen?, grown_old w os q ha]
  · obtain ⟨h1, h2, h3⟩ := hm.blk id o b ho hb
    exact ⟨h1, Nat.lt_of_lt_of_le h2 hsz, h3⟩
theorem mapBlock_setRow {w : World} {b : Nat} {c : Array Value} {e : TypeId} {fr : Nat × Nat} (f : Array Value → Array Value) (hc : w.heap[b]? = some (.cells c e fr)) : mapBlock w b f = w.setRow b (f c) := by
  unfold mapBlock World.setRow
  congr 1
  apply Array.ext_getElem?
  intro i
  simp only [Array.getElem?_modify]
  by_cases h : b = i
  · subst h
    simp [hc, onCells]
  · simp [h]
/-- a run that owns nothing: what it leaves is the world it found, grown -/
theorem Mem.is_grown {C : Cx} {nx : Nat} {S : Nat → Prop} {m : Ids} {w : World} (hm : Mem C [] nx S m w) (ho : ∀ b, ¬ C.own0 b) : ∃ q os, w = grown C.w0 os q := by
  refine ⟨w.drawn - C.w0.drawn, w.heap.extract C.w0.heap.size w.heap.size, ?_⟩
  have h1 : w.heap = C.w0.heap ++ w.heap.extract C.w0.heap.size w.heap.size := by
    apply Array.ext_getElem?
    intro i
    by_cases hi : i < C.w0.heap.size
    · rw [Array.getElem?_append_left hi]; exact hm.frame i hi (ho i)
    · rw [Array.getElem?_append_right (by omega), Array.getElem?_extract]
      have := hm.size
      by_cases h2 : i < w.heap.size
      · rw [if_pos (by simp; omega)]; congr 1; omega
      · rw [if_neg (by simp; omega)]; exact Array.getElem?_eq_none (by omega)
  have h2 : w.drawn = C.w0.drawn + (w.drawn - C.w0.drawn) := by have := hm.os.2; omega
  obtain ⟨heap, tape, drawn, os, output⟩ := w
  unfold grown
  simp only at h1 h2
  have e1 := hm.tape; have e2 := hm.os.1; have e3 := hm.output
  simp only at e1 e2 e3
  subst e1 e2 e3
  simp only [World.mk.injEq, true_and, and_true]
  exact ⟨h1, h2⟩
/-- what slices.SortFunc leaves -/
def sortBy {β : Type} [Inhabited β] (cf : β → β → Int) (l : List β) : List β := (pdq (ltOf cf) l.toArray 0 l.length (Lib.bitLen l.length) true true).toList
theorem sortBy_spec {β : Type} [Inhabited β] (cf : β → β → Int) (hO : SWO (ltOf cf)) (l : List β) : (sortBy cf l).Perm l ∧ (sortBy cf l).length = l.length ∧ ∀ (i j : Nat) (x y : β), i < j → (sortBy cf l)[i]? = some x → (sortBy cf l)[j]? = some y → ¬ cf y x < 0 := by
  have h := pdq_sorts (ltOf cf) hO l.toArray 0 l.length (Lib.bitLen l.length) true true (Nat.zero_le _) (by simp) (Or.inl rfl)
  obtain ⟨⟨p1, p2, p3⟩, p4⟩ := h
  have e : (sortBy cf l).length = l.length := by simpa [sortBy] using p1
  refine ⟨?_, e, fun i j x y hij hx hy => ?_⟩
  · have : ∀ (a : Array β) n, a.size = n → a.extract 0 n = a := fun a n hn => by subst hn; simp
    rw [this _ _ (by simpa using p1), this _ _ (by simp)] at p3
    simpa [sortBy] using p3
  · have hj : j < l.length := by rw [← e]; exact (List.getElem?_eq_some_iff.1 hy).1
    have hj' : j < (pdq (ltOf cf) l.toArray 0 l.length (Lib.bitLen l.length) true true).size := by rw [p1]; simpa using hj
    have := p4 i j (Nat.zero_le _) hij hj
    rw [getElem!_pos _ j hj', getElem!_pos _ i (by omega)] at this
    simp only [sortBy, Array.getElem?_toList] at hx hy
    rw [Array.getElem?_eq_getElem (by omega)] at hx hy
    cases hx; cases hy
    simpa [ltOf] using this
theorem cells_of_rows {w : World} {S : Nat → Prop} {c : Array Value} {k : Nat} {β : Type} [Inhabited β] {ev : β → List Value} (hk0 : 0 < k) (hlen : ∀ x, (ev x).length = k) {l : List β} (h : RowsRep (FRep w S) c k (l.map fun x => (ev x).map FV.lit)) :
    l.length * k ≤ c.size ∧ ∀ j, j < l.length * k → c[j]? = some (flatK ev k l.toArray)[j]! := by
  refine ⟨by simpa using h.1, fun j hj => ?_⟩
  have hd : j / k < l.length := Nat.div_lt_of_lt_mul (by rwa [Nat.mul_comm] at hj)
  have hm := Nat.mod_lt j hk0
  rw [get_flatK _ _ _ _ (by simpa using hj)]
  have hx : (l.map fun x => (ev x).map FV.lit)[j / k]? = some ((ev l[j / k]).map FV.lit) := by simp [hd]
  have hlk : j % k < (ev l[j / k]).length := by rw [hlen]; exact hm
  obtain ⟨u, hu, _, hr⟩ := h.2.2 (j / k) (j % k) _ (.lit (ev l[j / k])[j % k]) hx (by simp [hlk])
  have e : j / k * k + j % k = j := by rw [Nat.mul_comm]; exact Nat.div_add_mod j k
  rw [e] at hu
  rw [hu]
  cases hr
  rw [getElem!_pos _ (j / k) (by simpa using hd), getElem!_pos _ (j % k) (by simpa using hlk)]
  simp
variable {P : Program} {ρ : Ren}
theorem cmp_lays {g k : Nat} {β : Type} [Inhabited β] {ev : β → List Value} (h1 : ∀ x, ∀ v ∈ ev x, v.oneCell' = true) {cf : β → β → Int} (hc : ∀ x y, Pure P g [.agg ((ev x).map .lit), .agg ((ev y).map .lit)] (If .i64 (cf x y))) (blk off size : Nat) (w : World) : CmpLays P g #[] ev k cf blk off size w := by
  intro m os dk _ x y
  generalize sortWorldK ev k w blk off m dk os = W
  let C : Cx := ⟨W, fun _ => False, fun _ => False, fun _ => none, 0⟩
  have hm : Mem C [] 0 C.S0 C.m0 C.w0 := ⟨⟨rfl, Nat.le_refl _⟩, rfl, rfl, fun _ _ => rfl, Nat.le_refl _, fun _ _ _ => rfl, Le.refl _ _ _, fun b h => .inl h, fun i x hx => (by cases hx), fun i o h => (by cases h), fun i o b h => (by cases h), fun i j o1 o2 b h => (by cases h), fun b hb => hb.elim, fun _ _ => rfl⟩
  have ag : ∀ z, FRep W (fun _ => False) (.agg (ev z).toArray) (.agg ((ev z).map .lit)) := fun z => by
    refine .agg _ _ (by simp) (fun i c f hc hf => ?_) (fun i c hc => ?_)
    · simp only [List.getElem?_toArray] at hc
      rw [List.getElem?_map, hc] at hf
      cases hf; exact .lit _
    · simp only [List.getElem?_toArray] at hc
      exact h1 z c (List.mem_of_getElem? hc)
  have := (hc x y).run C [.agg (ev x).toArray, .agg (ev y).toArray] rfl hm rfl (fun i v p hi hp => by
    match i with
    | 0 => simp at hi hp; subst hi; subst hp; exact .fz _ _ (ag x)
    | 1 => simp at hi hp; subst hi; subst hp; exact .fz _ _ (ag y)
    | i + 2 => simp at hi)
  have h2 : Calls P g (#[.agg (ev x).toArray, .agg (ev y).toArray] ++ #[]) W (fun e w' => ∃ v S' m', e = .returned v ∧ Mem C [] 0 S' m' w' ∧ Rep w' S' m' v (.fz (If .i64 (cf x y)))) := by simpa using this
  refine h2.mono fun e w' ⟨v, S', m', he, hm', hr⟩ => ?_
  obtain ⟨q, os', hw⟩ := hm'.is_grown (fun b h => h)
  refine ⟨by rw [he]; cases hr with | fz _ _ h => cases h; rfl, q, os', hw⟩
theorem sort_meets (L : SlLaysF0.n6 P ρ) {k : Nat} (hk0 : 0 < k) (aE : ∀ w, (isAgg (ρ.t 24)).run P w = .ok true w) (zE : ∀ w, (Go.sizeOf (ρ.t 24)).run P w = .ok k w) {β : Type} [Inhabited β] {ev : β → List Value} (hlen : ∀ x, (ev x).length = k) (h1 : ∀ x, ∀ v ∈ ev x, v.oneCell' = true) {cf : β → β → Int} (hO : SWO (ltOf cf)) {g : Nat} (hg : ∀ args w, (callFunc g args).run P w = .ok (.enter g args) w)
    (hc : ∀ x y, Pure P g [.agg ((ev x).map .lit), .agg ((ev y).map .lit)] (If .i64 (cf x y))) {l : List β} (hl : l.length < 4611686018427387904) :
    Meets P (ρ.f 6) [.sl 0 k 0 l.length, .clo g [] []] 1 [(0, some (.flat k (l.map fun x => (ev x).map .lit)))] (.fz (.tup [])) [(0, some (.flat k ((sortBy cf l).map fun x => (ev x).map .lit)))] 1 := by
  refine ⟨fun C vs hn hm hlv hr => ?_⟩
  have tupR : ∀ w' S' m', Rep w' S' m' (.tuple #[]) (.fz (.tup [])) := fun w' S' m' => .fz _ _ (.tup #[] [] rfl (fun i c f hc => by simp at hc))
  match vs, hlv, hr with
  | [v0, v1], _, hr =>
  have r0 := hr 0 v0 _ rfl rfl
  have r1 := hr 1 v1 _ rfl rfl
  have ho := hm.objs 0 _ rfl
  obtain ⟨hs1, hs2, _⟩ := sortBy_spec cf hO l
  cases r1 with
  | clo _ as' cs _ _ ha hcs _ _ =>
  have ea : as' = #[] := by simpa using ha
  have ec : cs = #[] := by simpa using hcs
  subst ea; subst ec
  generalize hll : l.length = n at r0 hl
  cases r0 with
  | sl0 =>
    have : l = [] := List.length_eq_zero_iff.1 hll
    subst this
    have e : sortBy cf ([] : List β) = [] := List.length_eq_zero_iff.1 hs2
    rw [e]
    refine (AnyF.slices_SortFunc_none L none 0 (.func (.func g) #[] #[]) C.w0).mono fun e w' ⟨he, hw⟩ => ?_
    subst hw
    exact ⟨_, _, _, he, hm, tupR _ _ _⟩
  | sl _ _ _ _ b cap h hroom hcap hmx =>
    rcases ho with ⟨h2, _⟩ | ⟨b', c, e, h2, h3, h4⟩
    · rw [h] at h2; cases h2
    · rw [h] at h2; cases h2
      obtain ⟨hsz, hcells⟩ := cells_of_rows hk0 hlen h4
      obtain ⟨hb1, hb2, hb3⟩ := hm.blk 0 _ b rfl h
      have hH : HoldsK ev k C.w0 b (0 * k) l.toArray := by
        intro j hj
        simp at hj
        refine ⟨?_, ?_⟩
        · simp only [World.cell?, h3, Nat.zero_mul, Nat.zero_add]
          simpa using hcells j hj
        · simp [World.frozen?, h3]
      have hcall := AnyQ.slices_SortFunc_eq L k aE zE ev hlen h1 cf hO g #[] b (0 * k) cap l.toArray C.w0 hg (cmp_lays h1 hc b (0 * k) l.toArray.size C.w0) hH hb2 (by simpa [hll] using hl)
      rw [show l.toArray.size = n by simpa using hll] at hcall
      refine hcall.mono fun ex w' ⟨he, q, os, hw⟩ => ?_
      subst hw
      have hls : l.toArray.size = n := by simpa using hll
      have hd : pdq (ltOf cf) l.toArray 0 n (Lib.bitLen n) true true = (sortBy cf l).toArray := by rw [← hll]; simp [sortBy]
      rw [hd]
      have hset : sortWorldK ev k C.w0 b (0 * k) q (sortBy cf l).toArray os = grown (C.w0.setRow b (putCells id 0 (flatK ev k (sortBy cf l).toArray) c)) os q := by
        unfold sortWorldK putRowK putRow
        rw [mapBlock_setRow (w := Go.Sort.ahead C.w0 q) (b := b) (c := c) (e := e) (fr := (0, 0)) _ h3, Nat.zero_mul]
        rfl
      rw [hset]
      have hps : (putCells id 0 (flatK ev k (sortBy cf l).toArray) c).size = c.size := by simp [putCells]
      have hrr : ∀ w' : World, RowsRep (FRep w' C.S0) (putCells id 0 (flatK ev k (sortBy cf l).toArray) c) k ((sortBy cf l).map fun x => (ev x).map FV.lit) := fun w' => by
        refine ⟨by rw [hps]; simpa [hs2] using hsz, fun r hr => ?_, fun i j r p hi hj => ?_⟩
        · obtain ⟨x, _, rfl⟩ := List.mem_map.1 hr
          simp [hlen]
        · rw [List.getElem?_map] at hi
          obtain ⟨x, hx, rfl⟩ := Option.map_eq_some_iff.1 hi
          rw [List.getElem?_map] at hj
          obtain ⟨v, hv, rfl⟩ := Option.map_eq_some_iff.1 hj
          have hjk : j < k := by rw [← hlen x]; exact (List.getElem?_eq_some_iff.1 hv).1
          have hin : i < (sortBy cf l).length := (List.getElem?_eq_some_iff.1 hx).1
          have hlt : i * k + j < (sortBy cf l).length * k := by
            calc i * k + j < i * k + k := by omega
              _ = (i + 1) * k := by rw [Nat.add_mul, Nat.one_mul]
              _ ≤ _ := Nat.mul_le_mul_right _ hin
          have hlt2 : i * k + j < c.size := by rw [hs2] at hlt; omega
          refine ⟨v, ?_, h1 x v (List.mem_of_getElem? hv), .lit v⟩
          have e1 : (i * k + j) / k = i := by rw [Nat.mul_comm, Nat.mul_add_div hk0, Nat.div_eq_of_lt hjk, Nat.add_zero]
          have e2 : (i * k + j) % k = j := by rw [Nat.mul_comm, Nat.mul_add_mod, Nat.mod_eq_of_lt hjk]
          have e3 : (flatK ev k (sortBy cf l).toArray)[i * k + j]! = v := by
            rw [get_flatK _ _ _ _ (by simpa using hlt), e1, e2]
            rw [List.getElem?_eq_getElem hin] at hx
            cases hx
            rw [getElem!_pos _ i (by simpa using hin)]
            have hjl : j < (ev (sortBy cf l)[i]).length := by rw [hlen]; exact hjk
            rw [List.getElem?_eq_getElem hjl] at hv
            cases hv
            simp [hjl]
          unfold putCells
          rw [Array.getElem?_mapIdx, Array.getElem?_eq_getElem hlt2]
          simp only [Option.map_some, Nat.zero_le, true_and, Nat.zero_add, size_flatK, List.size_toArray, Nat.sub_zero, id]
          rw [if_pos hlt, e3]
      obtain ⟨m1, hle1⟩ := hm.write (id := 0) (o' := .flat k ((sortBy cf l).map fun x => (ev x).map .lit)) rfl h h3 hps (fun w' hle hb => .inr ⟨b, _, e, h, hb, hrr w'⟩)
      refine ⟨_, _, _, he, ((m1.reheap (H' := [(0, some (.flat k ((sortBy cf l).map fun x => (ev x).map .lit)))]) (fun id => ?_)).grow os q).1, tupR _ _ _⟩
      simp only [hlook]
      cases Nat.beq 0 id <;> rfl
end Go.RT
namespace Go.Proofs.Ytdebjffddkgfbaa
open Go Go.RT Go.Proofs Go.Pl
set_option linter.all false
set_option maxRecDepth 20000
theorem nan_c (a : Int) : Pure Try.prog 68 [If .u64 a] (Bf false) := by
  rw [show (false) = decide (a ≠ a) by simp]
  refine Meets.intro Try.func68 rfl (Nat.le_of_ble_eq_true rfl) fun C hC => ?_
  simp only [List.map, argEnv, Nat.reduceAdd]
  refine nK ?_
  refine s_reg rfl ?_
  first | refine Run.pure (dd := some 2) rfl rfl (op_assign rfl (Opd.const _)) ?_ | refine Run.pure (dd := some 2) rfl rfl (op_junk (.inr rfl)) ?_
  refine Run.nil (FinR.mk ?_)
  refine nK ?_
  refine s_reg rfl ?_
  first | refine Run.pure (dd := some 3) rfl rfl (op_move rfl (Opd.tmp _ _ rfl)) ?_ | refine Run.pure (dd := some 3) rfl rfl (op_junk (.inl rfl)) ?_
  first | refine Run.pure (dd := some 4) rfl rfl (op_move rfl (Opd.tmp _ _ rfl)) ?_ | refine Run.pure (dd := some 4) rfl rfl (op_junk (.inl rfl)) ?_
  refine Run.pure (dd := some 5) rfl rfl (op_neq rfl (Opd.tmp _ _ rfl) (Opd.tmp _ _ rfl)) ?_
  first | refine Run.pure (dd := some 2) rfl rfl (op_assign rfl (Opd.tmp _ _ rfl)) ?_ | refine Run.pure (dd := some 2) rfl rfl (op_junk (.inr rfl)) ?_
  refine Run.nil (FinR.mk ?_)
  refine nK ?_
  (first | exact s_o1 hC rfl tV | exact s_o2 hC rfl tV tV | exact s_o3 hC rfl tV tV tV | exact s_out0 hC rfl | exact s_outO hC rfl rfl rfl)
def cmpF (a b : Int) : Int := if a < b then -1 else if a > b then 1 else 0
theorem cmp_c (a b : Int) : Pure Try.prog 61 [If .u64 a, If .u64 b] (If .i64 (cmpF a b)) := by
  refine Meets.intro Try.func61 rfl (Nat.le_of_ble_eq_true rfl) fun C hC => ?_
  simp only [List.map, argEnv, Nat.reduceAdd]
  refine nK ?_
  refine s_reg rfl ?_
  first | refine Run.pure (dd := some 4) rfl rfl (op_assign rfl (Opd.const _)) ?_ | refine Run.pure (dd := some 4) rfl rfl (op_junk (.inr rfl)) ?_
  refine Run.nil (FinR.mk ?_)
  refine nK ?_
  refine s_reg rfl ?_
  first | refine Run.pure (dd := some 7) rfl rfl (op_move rfl (Opd.tmp _ _ rfl)) ?_ | refine Run.pure (dd := some 7) rfl rfl (op_junk (.inl rfl)) ?_
  refine Run.pure (dd := some 8) rfl rfl (op_call_pure (fun _ => nan_c _) rfl (Opd.func _) (Opds.cons _ _ _ _ (Opd.tmp _ _ rfl) Opds.nil)) ?_
  first | refine Run.pure (dd := some 5) rfl rfl (op_assign rfl (Opd.tmp _ _ rfl)) ?_ | refine Run.pure (dd := some 5) rfl rfl (op_junk (.inr rfl)) ?_
  refine Run.nil (FinR.mk ?_)
  refine nK ?_
  refine s_reg rfl ?_
  first | refine Run.pure (dd := some 9) rfl rfl (op_move rfl (Opd.tmp _ _ rfl)) ?_ | refine Run.pure (dd := some 9) rfl rfl (op_junk (.inl rfl)) ?_
  refine Run.pure (dd := some 10) rfl rfl (op_call_pure (fun _ => nan_c _) rfl (Opd.func _) (Opds.cons _ _ _ _ (Opd.tmp _ _ rfl) Opds.nil)) ?_
  first | refine Run.pure (dd := some 6) rfl rfl (op_assign rfl (Opd.tmp _ _ rfl)) ?_ | refine Run.pure (dd := some 6) rfl rfl (op_junk (.inr rfl)) ?_
  refine Run.nil (FinR.mk ?_)
  refine nK ?_
  refine s_reg rfl ?_
  first | refine Run.pure (dd := some 11) rfl rfl (op_move rfl (Opd.tmp _ _ rfl)) ?_ | refine Run.pure (dd := some 11) rfl rfl (op_junk (.inl rfl)) ?_
  refine Run.nil (FinR.mk ?_)
  refine nK ?_
  refine n_cond _ rfl (fun hb => ?_) (fun hb => ?_)
  · cases hb
  refine nK ?_
  refine s_reg rfl ?_
  first | refine Run.pure (dd := some 13) rfl rfl (op_move rfl (Opd.tmp _ _ rfl)) ?_ | refine Run.pure (dd := some 13) rfl rfl (op_junk (.inl rfl)) ?_
  refine Run.nil (FinR.mk ?_)
  refine nK ?_
  refine n_cond _ rfl (fun hb => ?_) (fun hb => ?_)
  · cases hb
  refine nK ?_
  refine s_reg rfl ?_
  first | refine Run.pure (dd := some 14) rfl rfl (op_move rfl (Opd.tmp _ _ rfl)) ?_ | refine Run.pure (dd := some 14) rfl rfl (op_junk (.inl rfl)) ?_
  first | refine Run.pure (dd := some 15) rfl rfl (op_move rfl (Opd.tmp _ _ rfl)) ?_ | refine Run.pure (dd := some 15) rfl rfl (op_junk (.inl rfl)) ?_
  refine Run.pure (dd := some 16) rfl rfl (op_lss rfl (Opd.tmp _ _ rfl) (Opd.tmp _ _ rfl)) ?_
  refine Run.nil (FinR.mk ?_)
  refine nK ?_
  unfold cmpF
  refine n_cond _ rfl (fun hb => ?_) (fun hb => ?_)
  · rw [if_pos (by simpa using hb)]
    refine nK ?_
    refine s_reg rfl ?_
    first | refine Run.pure (dd := some 4) rfl rfl (op_assign rfl (Opd.const _)) ?_ | refine Run.pure (dd := some 4) rfl rfl (op_junk (.inr rfl)) ?_
    refine Run.nil (FinR.mk ?_)
    refine nK ?_
    (first | exact s_o1 hC rfl tV | exact s_o2 hC rfl tV tV | exact s_o3 hC rfl tV tV tV | exact s_out0 hC rfl | exact s_outO hC rfl rfl rfl)
  · rw [if_neg (by simpa using hb)]
    refine nK ?_
    refine s_reg rfl ?_
    first | refine Run.pure (dd := some 17) rfl rfl (op_move rfl (Opd.tmp _ _ rfl)) ?_ | refine Run.pure (dd := some 17) rfl rfl (op_junk (.inl rfl)) ?_
    first | refine Run.pure (dd := some 18) rfl rfl (op_move rfl (Opd.tmp _ _ rfl)) ?_ | refine Run.pure (dd := some 18) rfl rfl (op_junk (.inl rfl)) ?_
    refine Run.pure (dd := some 19) rfl rfl (op_gtr rfl (Opd.tmp _ _ rfl) (Opd.tmp _ _ rfl)) ?_
    refine Run.nil (FinR.mk ?_)
    refine nK ?_
    refine n_cond _ rfl (fun hb => ?_) (fun hb => ?_)
    · rw [if_pos (by simpa using hb)]
      refine nK ?_
      refine s_reg rfl ?_
      first | refine Run.pure (dd := some 4) rfl rfl (op_assign rfl (Opd.const _)) ?_ | refine Run.pure (dd := some 4) rfl rfl (op_junk (.inr rfl)) ?_
      refine Run.nil (FinR.mk ?_)
      refine nK ?_
      (first | exact s_o1 hC rfl tV | exact s_o2 hC rfl tV tV | exact s_o3 hC rfl tV tV tV | exact s_out0 hC rfl | exact s_outO hC rfl rfl rfl)
    · rw [if_neg (by simpa using hb)]
      refine nK ?_
      refine s_reg rfl ?_
      first | refine Run.pure (dd := some 4) rfl rfl (op_assign rfl (Opd.const _)) ?_ | refine Run.pure (dd := some 4) rfl rfl (op_junk (.inr rfl)) ?_
      refine Run.nil (FinR.mk ?_)
      refine nK ?_
      (first | exact s_o1 hC rfl tV | exact s_o2 hC rfl tV tV | exact s_o3 hC rfl tV tV tV | exact s_out0 hC rfl | exact s_outO hC rfl rfl rfl)
theorem bylo_c (s t : Spn) : Pure Try.prog 60 [.agg (encC s), .agg (encC t)] (If .i64 (cmpF s.lo t.lo)) := by
  refine Meets.intro Try.func60 rfl (Nat.le_of_ble_eq_true rfl) fun C hC => ?_
  simp only [List.map, argEnv, Nat.reduceAdd]
  refine nK ?_
  refine s_reg rfl ?_
  first | refine Run.eff (dd := some 2) rfl rfl (op_box_flat rfl (Opd.tmp _ _ rfl) tC rfl) ?_ | refine Run.eff (dd := some 2) rfl rfl (op_box_refs rfl (Opd.tmp _ _ rfl) tP rfl) ?_
  first | refine Run.eff (dd := some 3) rfl rfl (op_box_flat rfl (Opd.tmp _ _ rfl) tC rfl) ?_ | refine Run.eff (dd := some 3) rfl rfl (op_box_refs rfl (Opd.tmp _ _ rfl) tP rfl) ?_
  first | refine Run.pure (dd := some 4) rfl rfl (op_assign rfl (Opd.const _)) ?_ | refine Run.pure (dd := some 4) rfl rfl (op_junk (.inr rfl)) ?_
  refine Run.nil (FinR.mk ?_)
  refine nK ?_
  refine s_reg rfl ?_
  first | refine Run.pure (dd := some 5) rfl rfl (op_fld_ptr (by decide) rfl (Opd.tmp _ _ rfl)) ?_ | refine Run.pure (dd := some 5) rfl rfl (op_fld_fz (by decide) rfl (Opd.tmp _ _ rfl) tR) ?_
  first | refine Run.load (dd := some 6) rfl rfl (op_load1_flat rfl (Opd.tmp _ _ rfl) tH rfl) ?_ | refine Run.pure (dd := some 6) rfl rfl (op_load1_fz rfl (Opd.tmp _ _ rfl) rfl) ?_ | refine Run.load (dd := some 6) rfl rfl (op_load1_refs rfl (Opd.tmp _ _ rfl) tH rfl) ?_
  first | refine Run.pure (dd := some 7) rfl rfl (op_fld_ptr (by decide) rfl (Opd.tmp _ _ rfl)) ?_ | refine Run.pure (dd := some 7) rfl rfl (op_fld_fz (by decide) rfl (Opd.tmp _ _ rfl) tR) ?_
  first | refine Run.load (dd := some 8) rfl rfl (op_load1_flat rfl (Opd.tmp _ _ rfl) tH rfl) ?_ | refine Run.pure (dd := some 8) rfl rfl (op_load1_fz rfl (Opd.tmp _ _ rfl) rfl) ?_ | refine Run.load (dd := some 8) rfl rfl (op_load1_refs rfl (Opd.tmp _ _ rfl) tH rfl) ?_
  refine Run.pure (dd := some 9) rfl rfl (op_call_pure (fun _ => cmp_c _ _) rfl (Opd.func _) (Opds.cons _ _ _ _ (Opd.tmp _ _ rfl) (Opds.cons _ _ _ _ (Opd.tmp _ _ rfl) Opds.nil))) ?_
  first | refine Run.pure (dd := some 4) rfl rfl (op_assign rfl (Opd.tmp _ _ rfl)) ?_ | refine Run.pure (dd := some 4) rfl rfl (op_junk (.inr rfl)) ?_
  refine Run.nil (FinR.mk ?_)
  refine nK ?_
  (first | exact s_o1 hC rfl tV | exact s_o2 hC rfl tV tV | exact s_o3 hC rfl tV tV tV | exact s_out0 hC rfl | exact s_outO hC rfl rfl rfl)
theorem lt_lo (s t : Spn) : ltOf (fun s t : Spn => cmpF s.lo t.lo) s t = decide (s.lo < t.lo) := by
  unfold ltOf cmpF
  by_cases h1 : (s.lo : Int) < t.lo
  · simp [h1]; omega
  · by_cases h2 : (t.lo : Int) < s.lo
    · simp [h1, h2]; omega
    · simp [h1, h2]; omega
theorem swo_lo : Go.Sort.SWO (ltOf fun s t : Spn => cmpF s.lo t.lo) where
  irrefl x := by rw [lt_lo]; simp
  trans x y z h1 h2 := by rw [lt_lo] at *; simp at *; omega
  ntrans x y z h1 h2 := by rw [lt_lo] at *; simp at *; omega
end Go.Proofs.Ytdebjffddkgfbaa
/- Contracts of the library, laid at this translation. Written by the kit's printer. -/
namespace Go.Proofs.Ytdebjffddkgfbaa
open Go Go.Proofs Go.Shelf
def Try.sortSpan_ren : Go.Shelf.Ren := ⟨fun | 6 => 59 | 15 => 67 | 14 => 66 | 28 => 78 | 29 => 79 | 20 => 70 | 21 => 71 | 22 => 72 | 23 => 73 | 24 => 74 | 25 => 75 | 26 => 76 | 27 => 77 | 46 => 80 | 47 => 81 | 48 => 82 | 49 => 83 | 50 => 84 | 57 => 85 | n => n, fun | 22 => 49 | 24 => 48 | 25 => 72 | 3 => 3 | 39 => 57 | 0 => 0 | 53 => 22 | 55 => 44 | 4 => 4 | 46 => 80 | 45 => 79 | 50 => 84 | 5 => 5 | 9 => 9 | 66 => 88 | 70 => 92 | 76 => 94 | 77 => 95 | n => n, fun | n => n⟩
theorem Try.sortSpan : Go.Proofs.SlLaysF0.n6 Try.prog Try.sortSpan_ren := {
  mixed := by kernel_rfl
  f6 := ⟨Try.f59.name, by decide, Try.func59.trans (congrArg some (by kernel_rfl))⟩
  f14 := ⟨Try.f66.name, by decide, Try.func66.trans (congrArg some (by kernel_rfl))⟩
  f15 := Try.func67.trans (congrArg some (by kernel_rfl))
  f20 := ⟨Try.f70.name, by decide, Try.func70.trans (congrArg some (by kernel_rfl))⟩
  f21 := ⟨Try.f71.name, by decide, Try.func71.trans (congrArg some (by kernel_rfl))⟩
  f22 := ⟨Try.f72.name, by decide, Try.func72.trans (congrArg some (by kernel_rfl))⟩
  f23 := ⟨Try.f73.name, by decide, Try.func73.trans (congrArg some (by kernel_rfl))⟩
  f24 := ⟨Try.f74.name, by decide, Try.func74.trans (congrArg some (by kernel_rfl))⟩
  f25 := ⟨Try.f75.name, by decide, Try.func75.trans (congrArg some (by kernel_rfl))⟩
  f26 := ⟨Try.f76.name, by decide, Try.func76.trans (congrArg some (by kernel_rfl))⟩
  f27 := ⟨Try.f77.name, by decide, Try.func77.trans (congrArg some (by kernel_rfl))⟩
  f28 := Try.func78.trans (congrArg some (by kernel_rfl))
  f29 := Try.func79.trans (congrArg some (by kernel_rfl))
  f46 := ⟨Try.f80.name, by decide, Try.func80.trans (congrArg some (by kernel_rfl))⟩
  f47 := Try.func81.trans (congrArg some (by kernel_rfl))
  f48 := Try.func82.trans (congrArg some (by kernel_rfl))
  f49 := ⟨Try.f83.name, by decide, Try.func83.trans (congrArg some (by kernel_rfl))⟩
  f50 := ⟨Try.f84.name, by decide, Try.func84.trans (congrArg some (by kernel_rfl))⟩
  f57 := ⟨Try.f85.name, by decide, Try.func85.trans (congrArg some (by kernel_rfl))⟩
  t0 := Try.underlying0
  a0 := Try.isAgg0
  z0 := Try.sizeOf0
  v0 := Try.zeroValue0
  t3 := Try.underlying3
  a3 := Try.isAgg3
  z3 := Try.sizeOf3
  v3 := Try.zeroValue3
  t4 := Try.underlying4
  a4 := Try.isAgg4
  z4 := Try.sizeOf4
  v4 := Try.zeroValue4
  t5 := Try.underlying5
  a5 := Try.isAgg5
  z5 := Try.sizeOf5
  v5 := Try.zeroValue5
  t9 := Try.underlying9
  a9 := Try.isAgg9
  z9 := Try.sizeOf9
  v9 := Try.zeroValue9
  t22 := Try.underlying49
  a22 := Try.isAgg49
  z22 := Try.sizeOf49
  v22 := Try.zeroValue49
  t25 := Try.underlying72
  a25 := Try.isAgg72
  z25 := Try.sizeOf72
  v25 := Try.zeroValue72
  t39 := Try.underlying57
  a39 := Try.isAgg57
  z39 := Try.sizeOf57
  v39 := Try.zeroValue57
  t45 := Try.underlying79
  a45 := Try.isAgg79
  z45 := Try.sizeOf79
  v45 := Try.zeroValue79
  t46 := Try.underlying80
  a46 := Try.isAgg80
  z46 := Try.sizeOf80
  v46 := Try.zeroValue80
  t50 := Try.underlying84
  a50 := Try.isAgg84
  z50 := Try.sizeOf84
  v50 := Try.zeroValue84
  t53 := Try.underlying22
  a53 := Try.isAgg22
  z53 := Try.sizeOf22
  v53 := Try.zeroValue22
  t55 := Try.underlying44
  a55 := Try.isAgg44
  z55 := Try.sizeOf44
  v55 := Try.zeroValue44
  t66 := Try.underlying88
  a66 := Try.isAgg88
  z66 := Try.sizeOf88
  v66 := Try.zeroValue88
  t70 := Try.underlying92
  a70 := Try.isAgg92
  z70 := Try.sizeOf92
  v70 := Try.zeroValue92
  t76 := Try.underlying94
  a76 := Try.isAgg94
  z76 := Try.sizeOf94
  v76 := Try.zeroValue94
  t77 := Try.underlying95
  a77 := Try.isAgg95
  z77 := Try.sizeOf95
  v77 := Try.zeroValue95 }
end Go.Proofs.Ytdebjffddkgfbaa
namespace Go.Proofs.Ytdebjffddkgfbaa
open Go Go.RT Go.Proofs Go.Pl
set_option linter.all false
set_option maxRecDepth 20000
instance : Inhabited Spn := ⟨⟨0, 0⟩⟩
def vC (s : Spn) : List Value := [.int .u64 s.lo, .int .u64 ((s.hi - 1 : Nat) : Int)]
theorem sorted_c (l : List Spn) (hn : l.length ≤ 1000000) : Meets Try.prog 59 [.sl 0 2 0 l.length, .clo 60 [] []] 1 [(0, OC l)] (.fz (.tup [])) [(0, OC (sortBy (fun s t : Spn => cmpF s.lo t.lo) l))] 1 :=
  sort_meets (ρ := Try.sortSpan_ren) Try.sortSpan (k := 2) (by decide) (fun w => run_isAgg (t := 48) inferInstance w) (fun w => run_size (t := 48) inferInstance w) (ev := vC) (fun _ => rfl) (fun x v hv => by simp [vC] at hv; rcases hv with rfl | rfl <;> rfl) swo_lo (g := 60) (enters_of Try.func60 (by kernel_rfl) rfl) (fun x y => bylo_c x y) (l := l) (by omega)
end Go.Proofs.Ytdebjffddkgfbaa
namespace Go.Proofs.Ytdebjffddkgfbaa
open Go Go.RT Go.Proofs Go.Pl
set_option linter.all false
set_option maxRecDepth 20000
theorem sortBy_lo (l : List Spn) : (sortBy (fun s t : Spn => cmpF s.lo t.lo) l).Pairwise (fun a b => a.lo ≤ b.lo) := by
  obtain ⟨_, _, h⟩ := sortBy_spec (fun s t : Spn => cmpF s.lo t.lo) swo_lo l
  rw [List.pairwise_iff_getElem]
  intro i j hi hj hij
  have := h i j _ _ hij (List.getElem?_eq_getElem hi) (List.getElem?_eq_getElem hj)
  rcases Nat.lt_or_ge (sortBy (fun s t : Spn => cmpF s.lo t.lo) l)[j].lo (sortBy (fun s t : Spn => cmpF s.lo t.lo) l)[i].lo with h1 | h1
  · exfalso; apply this; show cmpF _ _ < 0; generalize (sortBy (fun s t : Spn => cmpF s.lo t.lo) l)[j].lo = u at *; generalize (sortBy (fun s t : Spn => cmpF s.lo t.lo) l)[i].lo = v at *; unfold cmpF; rw [if_pos (by omega)]; decide
  · exact h1
theorem fold_sort {l : List Spn} (hl : okS l) : (sortBy (fun s t : Spn => cmpF s.lo t.lo) l).foldl joinS [] = canonOf l := by
  obtain ⟨hp, _, _⟩ := sortBy_spec (fun s t : Spn => cmpF s.lo t.lo) swo_lo l
  obtain ⟨f1, f2, _⟩ := fold_spec _ [] Canon.nil (fun s hs => (hl s (hp.mem_iff.1 hs)).1) (sortBy_lo l) (by simp)
  refine canon_eq hl f1 fun x => ?_
  rw [f2]
  simp only [memS_nil, false_or]
  exact memS_congr (fun s => hp.mem_iff) x
theorem cmerged_c (l : List Spn) (hl : okS l) (hn : l.length ≤ 1000000) : Meets Try.prog 41 [.sl 0 2 0 l.length] 1 [(0, OC l)] (.sl 1 2 0 (canonOf l).length) [(1, OC (canonOf l))] 2 := by
  obtain ⟨hp, hlen, _⟩ := sortBy_spec (fun s t : Spn => cmpF s.lo t.lo) swo_lo l
  have hso := sortBy_lo l
  have hfs := fold_sort hl
  have hsr := sorted_c l hn
  have hls : okS (sortBy (fun s t : Spn => cmpF s.lo t.lo) l) := fun s hs => hl s (hp.mem_iff.1 hs)
  generalize sortBy (fun s t : Spn => cmpF s.lo t.lo) l = srt at *
  refine Meets.intro Try.func41 rfl (Nat.le_of_ble_eq_true rfl) fun C hC => ?_
  simp only [List.map, argEnv, Nat.reduceAdd]
  refine nK ?_
  refine s_reg rfl ?_
  first | refine Run.pure (dd := some 2) rfl rfl (op_assign rfl (Opd.const _)) ?_ | refine Run.pure (dd := some 2) rfl rfl (op_junk (.inr rfl)) ?_
  refine Run.nil (FinR.mk ?_)
  refine nK ?_
  refine s_reg rfl ?_
  first | refine Run.pure (dd := some 7) rfl rfl (op_move rfl (Opd.tmp _ _ rfl)) ?_ | refine Run.pure (dd := some 7) rfl rfl (op_junk (.inl rfl)) ?_
  refine Run.eff (dd := some 8) rfl rfl (op_call (n := 1) (n' := 1) [0] (fun _ => hsr) rfl (Opd.func _) (Opds.cons _ _ _ _ (Opd.tmp _ _ rfl) (Opds.cons _ _ _ _ (Opd.func _) Opds.nil)) rfl rfl (Lent.of rfl rfl (by repeat (first | exact trivial | refine ⟨⟨rfl, rfl, rfl, tL⟩, ?_⟩)) rfl) rfl rfl rfl rfl rfl) ?_
  refine Run.nil (FinR.mk ?_)
  refine nK ?_
  refine s_reg rfl ?_
  first | refine Run.pure (dd := some 3) rfl rfl (op_assign rfl (Opd.const _)) ?_ | refine Run.pure (dd := some 3) rfl rfl (op_junk (.inr rfl)) ?_
  refine Run.nil (FinR.mk ?_)
  refine nK ?_
  refine s_reg rfl ?_
  first | refine Run.pure (dd := some 9) rfl rfl (op_move rfl (Opd.tmp _ _ rfl)) ?_ | refine Run.pure (dd := some 9) rfl rfl (op_junk (.inl rfl)) ?_
  first | refine Run.pure (dd := some 10) rfl rfl (op_len_fz rfl (by first | exact Opd.tmp _ _ rfl | exact Opd.nil _ _ (Opd.tmp _ _ rfl)) (by first | exact List.length_map _ | rfl)) ?_ | refine Run.pure (dd := some 10) rfl rfl (op_len_sl rfl (Opd.tmp _ _ rfl)) ?_
  first | refine Run.pure (dd := some 11) rfl rfl (op_move rfl (Opd.const _)) ?_ | refine Run.pure (dd := some 11) rfl rfl (op_junk (.inl rfl)) ?_
  refine Run.nil (FinR.mk ?_)
  refine nK ?_
  refine Next.adopt 3 2 rfl ?_
  refine n_loop (ι := Nat) (fun i => ([(3, .sl 1 2 0 ((srt.take i).foldl joinS []).length), (9, .sl 0 2 0 srt.length), (10, IV .i64 srt.length), (11, IV .i64 i)], [(0, OC srt), (1, OC ((srt.take i).foldl joinS []))], 2)) (fun i => i ≤ srt.length) (fun i => srt.length - i) 0 (Nat.zero_le _) ?_ ?_
  · rw [hlen]
    refine Next.weak [0, 1] [] (by rfl) (keepsN hC _ rfl) (by repeat (first | exact trivial | refine ⟨⟨_, rfl, .inl ⟨rfl, rfl⟩⟩, ?_⟩ | refine ⟨⟨_, rfl, .inl ⟨slEq rfl tN, rfl⟩⟩, ?_⟩ | refine ⟨⟨_, rfl, .inl ⟨ivEq tX, rfl⟩⟩, ?_⟩)) (by repeat (first | exact trivial | refine ⟨⟨rfl, rfl, rfl, tL⟩, ?_⟩ | refine ⟨⟨rfl, rfl, rfEq rfl tU, tL⟩, ?_⟩ | refine ⟨⟨rfl, rfl, flEq rfl (by first | (simp; done) | (simp; omega) | (simp [encP]; done) | simp [maxC, minC]), trivial⟩, ?_⟩)) (fun _ h => by simp at h) rel_intro
  · intro i hi K hK
    refine nK ?_
    refine s_reg rfl ?_
    refine Run.pure (dd := some 12) rfl rfl (op_lss rfl (Opd.tmp _ _ rfl) (Opd.tmp _ _ rfl)) ?_
    refine Run.nil (FinR.mk ?_)
    refine nK ?_
    refine n_cond _ rfl (fun hb => ?_) (fun hb => ?_)
    · have hlt : i < srt.length := by simp at hb; omega
      have hr1 := row_at encC srt i hlt
      have hs := hls srt[i] (List.getElem_mem hlt)
      have hK1 := hK (i + 1) (by omega) (by omega)
      have hst : (srt.take (i + 1)).foldl joinS [] = joinS ((srt.take i).foldl joinS []) srt[i] := by rw [List.take_succ_eq_append_getElem hlt, List.foldl_append]; rfl
      rw [hst] at hK1
      have htk : okS (srt.take i) := okS_take hls i
      obtain ⟨f1, f2, f3⟩ := fold_spec (srt.take i) [] Canon.nil (fun s hs => (htk s hs).1) (hso.sublist (List.take_sublist _ _)) (by simp)
      have fo : okS ((srt.take i).foldl joinS []) := okS_of f1 fun x hx => by
        have := (f2 x).1 hx
        simp only [memS_nil, false_or] at this
        exact memS_lt htk this
      have f4 : ((srt.take i).foldl joinS []).length ≤ 1000000 := by simp at f3; omega
      generalize (srt.take i).foldl joinS [] = out at *
      refine nK ?_
      refine s_reg rfl ?_
      first | refine Run.pure (dd := some 13) rfl rfl (op_idx_sl0 _ rfl (Opd.tmp _ _ rfl) (Opd.tmp _ _ rfl) tD) ?_ | refine Run.pure (dd := some 13) rfl rfl (op_idx_fz _ rfl (Opd.tmp _ _ rfl) (Opd.tmp _ _ rfl) tF) ?_
      first | refine Run.load (dd := some 14) rfl rfl (op_loadw_flat rfl (Opd.tmp _ _ rfl) tH rfl) ?_ | refine Run.pure (dd := some 14) rfl rfl (op_loadw_fz rfl (Opd.tmp _ _ rfl) rfl) ?_ | refine Run.load (dd := some 14) rfl rfl (op_loadn_flat rfl (Opd.tmp _ _ rfl) tH tR tR) ?_ | refine Run.pure (dd := some 14) rfl rfl (op_loadn_fz rfl (Opd.tmp _ _ rfl) tR) ?_ | refine Run.load (dd := some 14) rfl rfl (op_loadn_refs rfl (Opd.tmp _ _ rfl) tH tR tR) ?_
      refine Run.eff (dd := some 5) rfl rfl (op_alloc rfl rfl rfl rfl) ?_
      first | refine Run.eff (dd := none) rfl rfl (op_store_flat rfl (Opd.tmp _ _ rfl) (Opd.tmp _ _ rfl) tC rfl rfl (by first | rfl | assumption) tS) ?_ | refine Run.eff (dd := none) rfl rfl (op_store_refs rfl (Opd.tmp _ _ rfl) (Opd.tmp _ _ rfl) tP rfl rfl rfl tS) ?_
      refine Run.nil (FinR.mk ?_)
      refine nK ?_
      refine s_reg rfl ?_
      first | refine Run.pure (dd := some 15) rfl rfl (op_move rfl (Opd.tmp _ _ rfl)) ?_ | refine Run.pure (dd := some 15) rfl rfl (op_junk (.inl rfl)) ?_
      first | refine Run.pure (dd := some 16) rfl rfl (op_len_fz rfl (by first | exact Opd.tmp _ _ rfl | exact Opd.nil _ _ (Opd.tmp _ _ rfl)) (by first | exact List.length_map _ | rfl)) ?_ | refine Run.pure (dd := some 16) rfl rfl (op_len_sl rfl (Opd.tmp _ _ rfl)) ?_
      refine Run.pure (dd := some 17) rfl rfl (op_sub rfl (Opd.tmp _ _ rfl) (Opd.const _) tI) ?_
      first | refine Run.pure (dd := some 6) rfl rfl (op_assign rfl (Opd.tmp _ _ rfl)) ?_ | refine Run.pure (dd := some 6) rfl rfl (op_junk (.inr rfl)) ?_
      refine Run.nil (FinR.mk ?_)
      refine nK ?_
      rcases snoc_or out with ho | ⟨r, o, ho⟩
      · rw [ho] at hK1 ⊢
        rw [show joinS [] srt[i] = [srt[i]] by simp [joinS, hs.1]] at hK1
        refine s_draw mixed ?_
        first | refine Run.pure (dd := some 18) rfl rfl (op_move rfl (Opd.tmp _ _ rfl)) ?_ | refine Run.pure (dd := some 18) rfl rfl (op_junk (.inl rfl)) ?_
        refine Run.pure (dd := some 19) rfl rfl (op_geq rfl (Opd.tmp _ _ rfl) (Opd.const _)) ?_
        first | refine Run.pure (dd := some 20) rfl rfl (op_move rfl (Opd.tmp _ _ rfl)) ?_ | refine Run.pure (dd := some 20) rfl rfl (op_junk (.inl rfl)) ?_
        first | refine Run.pureG (dd := some 21) rfl rfl rfl tG (op_fld_ptr (by decide) rfl (Opd.tmp _ _ rfl)) ?_ | refine Run.pureG (dd := some 21) rfl rfl rfl tG (op_fld_fz (by decide) rfl (Opd.tmp _ _ rfl) tR) ?_
        first | refine Run.loadG (dd := some 22) rfl rfl rfl tG (op_load1_flat rfl (Opd.topt _ _ _ rfl tO) tH rfl) ?_ | refine Run.pureG (dd := some 22) rfl rfl rfl tG (op_load1_fz rfl (Opd.topt _ _ _ rfl tO) rfl) ?_ | refine Run.loadG (dd := some 22) rfl rfl rfl tG (op_load1_refs rfl (Opd.topt _ _ _ rfl tO) tH rfl) ?_
        first | refine Run.pureG (dd := some 23) rfl rfl rfl tG (op_move rfl (Opd.tmp _ _ rfl)) ?_ | refine Run.pureG (dd := some 23) rfl rfl rfl tG (op_junk (.inl rfl)) ?_
        first | refine Run.pureG (dd := some 24) rfl rfl rfl tG (op_move rfl (Opd.tmp _ _ rfl)) ?_ | refine Run.pureG (dd := some 24) rfl rfl rfl tG (op_junk (.inl rfl)) ?_
        refine Run.pureG (dd := some 25) rfl rfl rfl tG (op_idx_sl0 0 rfl (Opd.topt _ _ _ rfl tO) (Opd.topt _ _ _ rfl tO) (by intro hg; simp at hg)) ?_
        first | refine Run.pureG (dd := some 26) rfl rfl rfl tG (op_fld_ptr (by decide) rfl (Opd.topt _ _ _ rfl tO)) ?_ | refine Run.pureG (dd := some 26) rfl rfl rfl tG (op_fld_fz (by decide) rfl (Opd.topt _ _ _ rfl tO) tR) ?_
        refine Run.loadG (dd := some 27) rfl rfl rfl tG (op_load1_flat (rows := []) (r := encC ⟨0, 0⟩) rfl (Opd.topt _ _ _ rfl tO) (by intro hg; simp at hg) rfl) ?_
        refine Run.pureG (dd := some 28) rfl rfl rfl tG (op_add rfl (Opd.topt _ _ _ rfl tO) (Opd.const _) tI) ?_
        refine Run.pureG (dd := some 29) rfl rfl rfl tG (op_leq rfl (Opd.topt _ _ _ rfl tO) (Opd.topt _ _ _ rfl tO)) ?_
        refine Run.pure (dd := some 30) rfl rfl (op_pick_and rfl (Opd.tmp _ _ rfl) (Opd.topt _ _ _ rfl tO)) ?_
        refine Run.nil (FinD.mk (by kernel_rfl) ?_)
        refine nK ?_
        refine n_cond _ rfl (fun hb => ?_) (fun hb => ?_)
        · simp at hb
        · refine nK ?_
          refine s_reg rfl ?_
          first | refine Run.pure (dd := some 43) rfl rfl (op_move rfl (Opd.tmp _ _ rfl)) ?_ | refine Run.pure (dd := some 43) rfl rfl (op_junk (.inl rfl)) ?_
          first | refine Run.load (dd := some 44) rfl rfl (op_loadw_flat rfl (Opd.tmp _ _ rfl) tH rfl) ?_ | refine Run.pure (dd := some 44) rfl rfl (op_loadw_fz rfl (Opd.tmp _ _ rfl) rfl) ?_ | refine Run.load (dd := some 44) rfl rfl (op_loadn_flat rfl (Opd.tmp _ _ rfl) tH tR tR) ?_ | refine Run.pure (dd := some 44) rfl rfl (op_loadn_fz rfl (Opd.tmp _ _ rfl) tR) ?_ | refine Run.load (dd := some 44) rfl rfl (op_loadn_refs rfl (Opd.tmp _ _ rfl) tH tR tR) ?_
          refine Run.pure (dd := some 45) rfl rfl (op_buildSlice_fz rfl (RowsF.cons _ _ _ _ _ _ (Opd.tmp _ _ rfl) tC (by rfl) (RowsF.nil _)) rfl rfl) ?_
          first | refine Run.eff (dd := some 46) rfl rfl (op_append_own0 rfl (Opd.tmp _ _ rfl) (Opd.tmp _ _ rfl) rfl (by first | rfl | simp) rfl (by first | rfl | simp) rfl rfl tB tB) ?_ | refine Run.eff (dd := some 46) rfl rfl (op_append rfl (Opd.tmp _ _ rfl) (by first | exact Opd.tmp _ _ rfl | exact Opd.nil _ _ (Opd.tmp _ _ rfl)) rfl (by first | rfl | simp) rfl rfl tB tB) ?_
          first | refine Run.pure (dd := some 3) rfl rfl (op_assign rfl (Opd.tmp _ _ rfl)) ?_ | refine Run.pure (dd := some 3) rfl rfl (op_junk (.inr rfl)) ?_
          refine Run.nil (FinR.mk ?_)
          refine nK ?_
          refine s_reg rfl ?_
          refine Run.pure (dd := some 47) rfl rfl (op_add rfl (Opd.tmp _ _ rfl) (Opd.const _) tI) ?_
          first | refine Run.pure (dd := some 11) rfl rfl (op_move rfl (Opd.tmp _ _ rfl)) ?_ | refine Run.pure (dd := some 11) rfl rfl (op_junk (.inl rfl)) ?_
          refine Run.nil (FinR.mk ?_)
          refine nK ?_
          refine Next.weakS [9, 3] [] (by rfl) (by first | exact keeps0 hC _ | exact keepsN hC _ rfl) (by repeat (first | exact trivial | refine ⟨⟨_, rfl, .inl ⟨rfl, rfl⟩⟩, ?_⟩ | refine ⟨⟨_, rfl, .inl ⟨slEq rfl tN, rfl⟩⟩, ?_⟩ | refine ⟨⟨_, rfl, .inl ⟨ivEq tX, rfl⟩⟩, ?_⟩)) (by repeat (first | exact trivial | refine ⟨⟨rfl, rfl, rfl, tL⟩, ?_⟩ | refine ⟨⟨rfl, rfl, rfEq rfl tU, tL⟩, ?_⟩ | refine ⟨⟨rfl, rfl, flEq rfl (by first | (simp; done) | (simp; omega) | (simp [encP]; done) | simp [maxC, minC]), trivial⟩, ?_⟩)) rfl (hK1)
      · rw [ho] at hK1 ⊢
        have hrow : ((r ++ [o]).map encC)[r.length]? = some (encC o) := by simp
        rw [joinS_snoc] at hK1
        have hle := fo o (by rw [ho]; simp)
        have hrl : r.length + 1 ≤ 1000000 := by rw [ho] at f4; simpa using f4
        have hrl2 : (r ++ [o]).length = r.length + 1 := by simp
        refine s_draw mixed ?_
        first | refine Run.pure (dd := some 18) rfl rfl (op_move rfl (Opd.tmp _ _ rfl)) ?_ | refine Run.pure (dd := some 18) rfl rfl (op_junk (.inl rfl)) ?_
        refine Run.pure (dd := some 19) rfl rfl (op_geq rfl (Opd.tmp _ _ rfl) (Opd.const _)) ?_
        first | refine Run.pure (dd := some 20) rfl rfl (op_move rfl (Opd.tmp _ _ rfl)) ?_ | refine Run.pure (dd := some 20) rfl rfl (op_junk (.inl rfl)) ?_
        first | refine Run.pureG (dd := some 21) rfl rfl rfl tG (op_fld_ptr (by decide) rfl (Opd.tmp _ _ rfl)) ?_ | refine Run.pureG (dd := some 21) rfl rfl rfl tG (op_fld_fz (by decide) rfl (Opd.tmp _ _ rfl) tR) ?_
        first | refine Run.loadG (dd := some 22) rfl rfl rfl tG (op_load1_flat rfl (Opd.topt _ _ _ rfl tO) tH rfl) ?_ | refine Run.pureG (dd := some 22) rfl rfl rfl tG (op_load1_fz rfl (Opd.topt _ _ _ rfl tO) rfl) ?_ | refine Run.loadG (dd := some 22) rfl rfl rfl tG (op_load1_refs rfl (Opd.topt _ _ _ rfl tO) tH rfl) ?_
        first | refine Run.pureG (dd := some 23) rfl rfl rfl tG (op_move rfl (Opd.tmp _ _ rfl)) ?_ | refine Run.pureG (dd := some 23) rfl rfl rfl tG (op_junk (.inl rfl)) ?_
        first | refine Run.pureG (dd := some 24) rfl rfl rfl tG (op_move rfl (Opd.tmp _ _ rfl)) ?_ | refine Run.pureG (dd := some 24) rfl rfl rfl tG (op_junk (.inl rfl)) ?_
        refine Run.pureG (dd := some 25) rfl rfl rfl tG (op_idx_sl0 r.length rfl (Opd.topt _ _ _ rfl tO) (Opd.topt _ _ _ rfl tO) (by intro _; constructor <;> omega)) ?_
        first | refine Run.pureG (dd := some 26) rfl rfl rfl tG (op_fld_ptr (by decide) rfl (Opd.topt _ _ _ rfl tO)) ?_ | refine Run.pureG (dd := some 26) rfl rfl rfl tG (op_fld_fz (by decide) rfl (Opd.topt _ _ _ rfl tO) tR) ?_
        first | refine Run.loadG (dd := some 27) rfl rfl rfl tG (op_load1_flat rfl (Opd.topt _ _ _ rfl tO) tH rfl) ?_ | refine Run.pureG (dd := some 27) rfl rfl rfl tG (op_load1_fz rfl (Opd.topt _ _ _ rfl tO) rfl) ?_ | refine Run.loadG (dd := some 27) rfl rfl rfl tG (op_load1_refs rfl (Opd.topt _ _ _ rfl tO) tH rfl) ?_
        refine Run.pureG (dd := some 28) rfl rfl rfl tG (op_add rfl (Opd.topt _ _ _ rfl tO) (Opd.const _) tI) ?_
        refine Run.pureG (dd := some 29) rfl rfl rfl tG (op_leq rfl (Opd.topt _ _ _ rfl tO) (Opd.topt _ _ _ rfl tO)) ?_
        refine Run.pure (dd := some 30) rfl rfl (op_pick_and rfl (Opd.tmp _ _ rfl) (Opd.topt _ _ _ rfl tO)) ?_
        refine Run.nil (FinD.mk (by kernel_rfl) ?_)
        refine nK ?_
        refine n_cond _ rfl (fun hb => ?_) (fun hb => ?_)
        · have hjo : srt[i].lo ≤ o.hi := by simp at hb; omega
          rw [if_pos hjo] at hK1
          refine nK ?_
          refine s_draw mixed ?_
          first | refine Run.pure (dd := some 31) rfl rfl (op_move rfl (Opd.tmp _ _ rfl)) ?_ | refine Run.pure (dd := some 31) rfl rfl (op_junk (.inl rfl)) ?_
          first | refine Run.pure (dd := some 32) rfl rfl (op_move rfl (Opd.tmp _ _ rfl)) ?_ | refine Run.pure (dd := some 32) rfl rfl (op_junk (.inl rfl)) ?_
          first | refine Run.pure (dd := some 33) rfl rfl (op_move rfl (Opd.tmp _ _ rfl)) ?_ | refine Run.pure (dd := some 33) rfl rfl (op_junk (.inl rfl)) ?_
          first | refine Run.pure (dd := some 34) rfl rfl (op_move rfl (Opd.tmp _ _ rfl)) ?_ | refine Run.pure (dd := some 34) rfl rfl (op_junk (.inl rfl)) ?_
          refine Run.pure (dd := some 35) rfl rfl (op_idx_sl0 r.length rfl (Opd.tmp _ _ rfl) (Opd.tmp _ _ rfl) (by intro _; constructor <;> omega)) ?_
          first | refine Run.pure (dd := some 36) rfl rfl (op_fld_ptr (by decide) rfl (Opd.tmp _ _ rfl)) ?_ | refine Run.pure (dd := some 36) rfl rfl (op_fld_fz (by decide) rfl (Opd.tmp _ _ rfl) tR) ?_
          first | refine Run.load (dd := some 37) rfl rfl (op_load1_flat rfl (Opd.tmp _ _ rfl) tH rfl) ?_ | refine Run.pure (dd := some 37) rfl rfl (op_load1_fz rfl (Opd.tmp _ _ rfl) rfl) ?_ | refine Run.load (dd := some 37) rfl rfl (op_load1_refs rfl (Opd.tmp _ _ rfl) tH rfl) ?_
          first | refine Run.pure (dd := some 38) rfl rfl (op_fld_ptr (by decide) rfl (Opd.tmp _ _ rfl)) ?_ | refine Run.pure (dd := some 38) rfl rfl (op_fld_fz (by decide) rfl (Opd.tmp _ _ rfl) tR) ?_
          first | refine Run.load (dd := some 39) rfl rfl (op_load1_flat rfl (Opd.tmp _ _ rfl) tH rfl) ?_ | refine Run.pure (dd := some 39) rfl rfl (op_load1_fz rfl (Opd.tmp _ _ rfl) rfl) ?_ | refine Run.load (dd := some 39) rfl rfl (op_load1_refs rfl (Opd.tmp _ _ rfl) tH rfl) ?_
          refine Run.pure (dd := some 40) rfl rfl (op_max rfl (Opd.tmp _ _ rfl) (Opd.tmp _ _ rfl)) ?_
          refine Run.pure (dd := some 41) rfl rfl (op_idx_sl0 r.length rfl (Opd.tmp _ _ rfl) (Opd.tmp _ _ rfl) (by intro _; constructor <;> omega)) ?_
          first | refine Run.pure (dd := some 42) rfl rfl (op_fld_ptr (by decide) rfl (Opd.tmp _ _ rfl)) ?_ | refine Run.pure (dd := some 42) rfl rfl (op_fld_fz (by decide) rfl (Opd.tmp _ _ rfl) tR) ?_
          first | refine Run.effW (dd := none) rfl rfl (op_store_flat rfl (Opd.tmp _ _ rfl) (Opd.tmp _ _ rfl) tC rfl rfl (by first | rfl | assumption) tS) tE ?_ | refine Run.effW (dd := none) rfl rfl (op_store_refs rfl (Opd.tmp _ _ rfl) (Opd.tmp _ _ rfl) tP rfl rfl rfl tS) tE ?_
          refine Run.nil (FinD.mk (by kernel_rfl) ?_)
          refine nK ?_
          refine s_reg rfl ?_
          refine Run.pure (dd := some 47) rfl rfl (op_add rfl (Opd.tmp _ _ rfl) (Opd.const _) tI) ?_
          first | refine Run.pure (dd := some 11) rfl rfl (op_move rfl (Opd.tmp _ _ rfl)) ?_ | refine Run.pure (dd := some 11) rfl rfl (op_junk (.inl rfl)) ?_
          refine Run.nil (FinR.mk ?_)
          refine nK ?_
          refine Next.weakS [9, 3] [] (by rfl) (by first | exact keeps0 hC _ | exact keepsN hC _ rfl) (by repeat (first | exact trivial | refine ⟨⟨_, rfl, .inl ⟨rfl, rfl⟩⟩, ?_⟩ | refine ⟨⟨_, rfl, .inl ⟨slEq rfl tN, rfl⟩⟩, ?_⟩ | refine ⟨⟨_, rfl, .inl ⟨ivEq tX, rfl⟩⟩, ?_⟩)) (by repeat (first | exact trivial | refine ⟨⟨rfl, rfl, rfl, tL⟩, ?_⟩ | refine ⟨⟨rfl, rfl, rfEq rfl tU, tL⟩, ?_⟩ | refine ⟨⟨rfl, rfl, flEq rfl (by first | (simp; done) | (simp; omega) | (simp [encP]; done) | simp [maxC, minC]), trivial⟩, ?_⟩)) rfl (hK1)
        · have hjo : ¬ srt[i].lo ≤ o.hi := by
            intro h; simp at hb; omega
          rw [if_neg hjo, if_pos hs.1] at hK1
          refine nK ?_
          refine s_reg rfl ?_
          first | refine Run.pure (dd := some 43) rfl rfl (op_move rfl (Opd.tmp _ _ rfl)) ?_ | refine Run.pure (dd := some 43) rfl rfl (op_junk (.inl rfl)) ?_
          first | refine Run.load (dd := some 44) rfl rfl (op_loadw_flat rfl (Opd.tmp _ _ rfl) tH rfl) ?_ | refine Run.pure (dd := some 44) rfl rfl (op_loadw_fz rfl (Opd.tmp _ _ rfl) rfl) ?_ | refine Run.load (dd := some 44) rfl rfl (op_loadn_flat rfl (Opd.tmp _ _ rfl) tH tR tR) ?_ | refine Run.pure (dd := some 44) rfl rfl (op_loadn_fz rfl (Opd.tmp _ _ rfl) tR) ?_ | refine Run.load (dd := some 44) rfl rfl (op_loadn_refs rfl (Opd.tmp _ _ rfl) tH tR tR) ?_
          refine Run.pure (dd := some 45) rfl rfl (op_buildSlice_fz rfl (RowsF.cons _ _ _ _ _ _ (Opd.tmp _ _ rfl) tC (by rfl) (RowsF.nil _)) rfl rfl) ?_
          first | refine Run.eff (dd := some 46) rfl rfl (op_append_own0 rfl (Opd.tmp _ _ rfl) (Opd.tmp _ _ rfl) rfl (by first | rfl | simp) rfl (by first | rfl | simp) rfl rfl tB tB) ?_ | refine Run.eff (dd := some 46) rfl rfl (op_append rfl (Opd.tmp _ _ rfl) (by first | exact Opd.tmp _ _ rfl | exact Opd.nil _ _ (Opd.tmp _ _ rfl)) rfl (by first | rfl | simp) rfl rfl tB tB) ?_
          first | refine Run.pure (dd := some 3) rfl rfl (op_assign rfl (Opd.tmp _ _ rfl)) ?_ | refine Run.pure (dd := some 3) rfl rfl (op_junk (.inr rfl)) ?_
          refine Run.nil (FinR.mk ?_)
          refine nK ?_
          refine s_reg rfl ?_
          refine Run.pure (dd := some 47) rfl rfl (op_add rfl (Opd.tmp _ _ rfl) (Opd.const _) tI) ?_
          first | refine Run.pure (dd := some 11) rfl rfl (op_move rfl (Opd.tmp _ _ rfl)) ?_ | refine Run.pure (dd := some 11) rfl rfl (op_junk (.inl rfl)) ?_
          refine Run.nil (FinR.mk ?_)
          refine nK ?_
          refine Next.weakS [9, 3] [] (by rfl) (by first | exact keeps0 hC _ | exact keepsN hC _ rfl) (by repeat (first | exact trivial | refine ⟨⟨_, rfl, .inl ⟨rfl, rfl⟩⟩, ?_⟩ | refine ⟨⟨_, rfl, .inl ⟨slEq rfl tN, rfl⟩⟩, ?_⟩ | refine ⟨⟨_, rfl, .inl ⟨ivEq tX, rfl⟩⟩, ?_⟩)) (by repeat (first | exact trivial | refine ⟨⟨rfl, rfl, rfl, tL⟩, ?_⟩ | refine ⟨⟨rfl, rfl, rfEq rfl tU, tL⟩, ?_⟩ | refine ⟨⟨rfl, rfl, flEq rfl (by first | (simp; done) | (simp; omega) | (simp [encP]; done) | simp [maxC, minC]), trivial⟩, ?_⟩)) rfl (hK1)
    · have hie : i = srt.length := by simp at hb; omega
      rw [take_len_eq hie, hfs]
      refine nK ?_
      refine s_reg rfl ?_
      first | refine Run.pure (dd := some 48) rfl rfl (op_move rfl (Opd.tmp _ _ rfl)) ?_ | refine Run.pure (dd := some 48) rfl rfl (op_junk (.inl rfl)) ?_
      first | refine Run.pure (dd := some 2) rfl rfl (op_assign rfl (Opd.tmp _ _ rfl)) ?_ | refine Run.pure (dd := some 2) rfl rfl (op_junk (.inr rfl)) ?_
      refine Run.nil (FinR.mk ?_)
      refine nK ?_
      refine Next.weak [0, 1] [] (by rfl) (keepsN hC _ rfl) (G' := [(2, .sl 1 2 0 (canonOf l).length)]) (H' := [(1, OC (canonOf l))]) (by repeat (first | exact trivial | refine ⟨⟨_, rfl, .inl ⟨rfl, rfl⟩⟩, ?_⟩ | refine ⟨⟨_, rfl, .inl ⟨slEq rfl tN, rfl⟩⟩, ?_⟩ | refine ⟨⟨_, rfl, .inl ⟨ivEq tX, rfl⟩⟩, ?_⟩)) (by repeat (first | exact trivial | refine ⟨⟨rfl, rfl, rfl, tL⟩, ?_⟩ | refine ⟨⟨rfl, rfl, rfEq rfl tU, tL⟩, ?_⟩ | refine ⟨⟨rfl, rfl, flEq rfl (by first | (simp; done) | (simp; omega) | (simp [encP]; done) | simp [maxC, minC]), trivial⟩, ?_⟩)) (fun _ h => by simp at h) (n_out1 rfl (by rfl) rfl rfl)
end Go.Proofs.Ytdebjffddkgfbaa
/- The runs that two lists share, found by walking both. No program in sight. -/
namespace Go.Pl
open Go.RT
def comS : List Spn → List Spn → List Spn
  | [], _ => []
  | _ :: _, [] => []
  | s :: a, t :: b => (if max s.lo t.lo < min s.hi t.hi then [⟨max s.lo t.lo, min s.hi t.hi⟩] else []) ++ (if s.hi < t.hi then comS a (t :: b) else comS (s :: a) b)
termination_by a b => a.length + b.length
theorem comS_nil (a : List Spn) : comS a [] = [] := by cases a <;> simp [comS]
theorem comS_nil' (b : List Spn) : comS [] b = [] := by simp [comS]
theorem comS_cons (s t : Spn) (a b : List Spn) : comS (s :: a) (t :: b) = (if max s.lo t.lo < min s.hi t.hi then [⟨max s.lo t.lo, min s.hi t.hi⟩] else []) ++ (if s.hi < t.hi then comS a (t :: b) else comS (s :: a) b) := by rw [comS]
theorem comS_len : ∀ (a b : List Spn), (comS a b).length ≤ a.length + b.length
  | [], b => by simp [comS]
  | s :: a, [] => by simp [comS]
  | s :: a, t :: b => by
    rw [comS_cons]
    have h1 := comS_len a (t :: b)
    have h2 := comS_len (s :: a) b
    simp only [List.length_append, List.length_cons] at *
    split <;> split <;> simp <;> omega
termination_by a b => a.length + b.length
theorem Canon.tail {s : Spn} {l : List Spn} (h : Canon (s :: l)) : Canon l ∧ s.lo < s.hi ∧ ∀ x, memS l x → s.hi < x := by
  obtain ⟨p1, p2⟩ := List.pairwise_cons.1 h.2
  refine ⟨⟨fun t ht => h.1 t (by simp [ht]), p2⟩, h.1 s (by simp), ?_⟩
  rintro x ⟨t, ht, h1, h2⟩
  have := p1 t ht; omega
theorem comS_spec : ∀ (a b : List Spn), Canon a → Canon b → Canon (comS a b) ∧ ∀ x, memS (comS a b) x ↔ memS a x ∧ memS b x
  | [], b, _, _ => by rw [comS_nil']; exact ⟨Canon.nil, fun x => by simp [memS_nil]⟩
  | s :: a, [], _, _ => by rw [comS_nil]; exact ⟨Canon.nil, fun x => by simp [memS_nil]⟩
  | s :: a, t :: b, ha, hb => by
    obtain ⟨ca, hs, ga⟩ := ha.tail
    obtain ⟨cb, ht, gb⟩ := hb.tail
    rw [comS_cons]
    have key : ∃ R, (if s.hi < t.hi then comS a (t :: b) else comS (s :: a) b) = R ∧ Canon R ∧ (∀ x, memS R x → min s.hi t.hi < x) ∧ ∀ x, (memS (s :: a) x ∧ memS (t :: b) x) ↔ ((max s.lo t.lo ≤ x ∧ x < min s.hi t.hi) ∨ memS R x) := by
      refine ⟨_, rfl, ?_⟩
      split
      · rename_i hlt
        obtain ⟨c1, c2⟩ := comS_spec a (t :: b) ca hb
        refine ⟨c1, fun x hx => ?_, fun x => ?_⟩
        · have := ga x ((c2 x).1 hx).1; omega
        · rw [c2, memS_cons, memS_cons]
          constructor
          · rintro ⟨h1 | h1, h2⟩
            · rcases h2 with h2 | h2
              · exact .inl (by omega)
              · have := gb x h2; omega
            · exact .inr ⟨h1, h2⟩
          · rintro (h | ⟨h1, h2⟩)
            · exact ⟨.inl (by omega), .inl (by omega)⟩
            · exact ⟨.inr h1, h2⟩
      · rename_i hlt
        obtain ⟨c1, c2⟩ := comS_spec (s :: a) b ha cb
        refine ⟨c1, fun x hx => ?_, fun x => ?_⟩
        · have := gb x ((c2 x).1 hx).2; omega
        · rw [c2, memS_cons, memS_cons]
          constructor
          · rintro ⟨h1, h2 | h2⟩
            · rcases h1 with h1 | h1
              · exact .inl (by omega)
              · have := ga x h1; omega
            · exact .inr ⟨h1, h2⟩
          · rintro (h | ⟨h1, h2⟩)
            · exact ⟨.inl (by omega), .inl (by omega)⟩
            · exact ⟨h1, .inr h2⟩
    obtain ⟨R, e, c1, c2, c3⟩ := key
    rw [e]
    split
    · rename_i hlt
      refine ⟨⟨fun u hu => ?_, ?_⟩, fun x => ?_⟩
      · rcases List.mem_append.1 hu with h | h
        · simp at h; subst h; exact hlt
        · exact c1.1 u h
      · rw [List.pairwise_append]
        refine ⟨by simp, c1.2, fun u hu v hv => ?_⟩
        simp at hu; subst hu
        exact c2 v.lo ⟨v, hv, Nat.le_refl _, c1.1 v hv⟩
      · rw [c3, memS_append, memS_cons]
        simp only [memS_nil, or_false]
    · rename_i hlt
      rw [List.nil_append]
      refine ⟨c1, fun x => ?_⟩
      rw [c3]
      constructor
      · exact .inr
      · rintro (h | h)
        · omega
        · exact h
termination_by a b => a.length + b.length
theorem comS_inter {a b : List Spn} (ha : Canon a) (hb : Canon b) (hoa : okS a) : comS a b = interS a b := by
  obtain ⟨c1, c2⟩ := comS_spec a b ha hb
  exact canon_eq (meetS_ok hoa) c1 fun x => (c2 x).trans (memS_meetS a b x).symm
end Go.Pl
namespace Go.Proofs.Ytdebjffddkgfbaa
open Go Go.RT Go.Proofs Go.Pl
set_option linter.all false
set_option maxRecDepth 20000
theorem ccommon_c (a b : List Spn) (ha : okS a) (hb0 : okS b) (hn : a.length ≤ 1000000) (hm : b.length ≤ 1000000) : Pure Try.prog 42 [VC a, VC b] (VC (comS a b)) := by
  refine Meets.freeze (len := (comS a b).length) (by simp) ?_
  have hcl := comS_len a b
  refine Meets.intro Try.func42 rfl (Nat.le_of_ble_eq_true rfl) fun C hC => ?_
  simp only [List.map, argEnv, Nat.reduceAdd]
  refine nK ?_
  refine s_reg rfl ?_
  first | refine Run.pure (dd := some 4) rfl rfl (op_assign rfl (Opd.const _)) ?_ | refine Run.pure (dd := some 4) rfl rfl (op_junk (.inr rfl)) ?_
  refine Run.nil (FinR.mk ?_)
  refine nK ?_
  refine s_reg rfl ?_
  first | refine Run.pure (dd := some 5) rfl rfl (op_assign rfl (Opd.const _)) ?_ | refine Run.pure (dd := some 5) rfl rfl (op_junk (.inr rfl)) ?_
  refine Run.nil (FinR.mk ?_)
  refine nK ?_
  refine s_reg rfl ?_
  first | refine Run.pure (dd := some 6) rfl rfl (op_assign rfl (Opd.const _)) ?_ | refine Run.pure (dd := some 6) rfl rfl (op_junk (.inr rfl)) ?_
  first | refine Run.pure (dd := some 7) rfl rfl (op_assign rfl (Opd.const _)) ?_ | refine Run.pure (dd := some 7) rfl rfl (op_junk (.inr rfl)) ?_
  refine Run.nil (FinR.mk ?_)
  refine nK ?_
  refine Next.adopt 5 2 rfl ?_
  refine n_loop (ι := Nat × Nat × List Spn) (fun g => ([(0, .fz (VC a)), (1, .fz (VC b)), (5, .sl 0 2 0 g.2.2.length), (6, IV .i64 g.1), (7, IV .i64 g.2.1)], [(0, OC g.2.2)], 1)) (fun g => g.1 ≤ a.length ∧ g.2.1 ≤ b.length ∧ g.2.2 ++ comS (a.drop g.1) (b.drop g.2.1) = comS a b) (fun g => a.length - g.1 + (b.length - g.2.1)) (0, 0, []) ⟨Nat.zero_le _, Nat.zero_le _, rfl⟩ ?_ ?_
  · refine Next.weakS [5] [] (by rfl) (by first | exact keeps0 hC _ | exact keepsN hC _ rfl) (by repeat (first | exact trivial | refine ⟨⟨_, rfl, .inl ⟨rfl, rfl⟩⟩, ?_⟩ | refine ⟨⟨_, rfl, .inl ⟨slEq rfl tN, rfl⟩⟩, ?_⟩ | refine ⟨⟨_, rfl, .inl ⟨ivEq tX, rfl⟩⟩, ?_⟩)) (by repeat (first | exact trivial | refine ⟨⟨rfl, rfl, rfl, tL⟩, ?_⟩ | refine ⟨⟨rfl, rfl, rfEq rfl tU, tL⟩, ?_⟩ | refine ⟨⟨rfl, rfl, flEq rfl (by first | (simp; done) | (simp; omega) | (simp [encP]; done) | simp [maxC, minC]), trivial⟩, ?_⟩)) rfl (rel_intro)
  · intro ⟨i, j, acc⟩ ⟨hi, hj, hacc⟩ K hK
    simp only at hi hj hacc
    have hal : acc.length ≤ a.length + b.length := by rw [← hacc] at hcl; simp at hcl; omega
    refine nK ?_
    refine s_reg rfl ?_
    first | refine Run.pure (dd := some 10) rfl rfl (op_move rfl (Opd.tmp _ _ rfl)) ?_ | refine Run.pure (dd := some 10) rfl rfl (op_junk (.inl rfl)) ?_
    first | refine Run.pure (dd := some 11) rfl rfl (op_move rfl (Opd.tmp _ _ rfl)) ?_ | refine Run.pure (dd := some 11) rfl rfl (op_junk (.inl rfl)) ?_
    first | refine Run.pure (dd := some 12) rfl rfl (op_len_fz rfl (by first | exact Opd.tmp _ _ rfl | exact Opd.nil _ _ (Opd.tmp _ _ rfl)) (by first | exact List.length_map _ | rfl)) ?_ | refine Run.pure (dd := some 12) rfl rfl (op_len_sl rfl (Opd.tmp _ _ rfl)) ?_
    refine Run.pure (dd := some 13) rfl rfl (op_lss rfl (Opd.tmp _ _ rfl) (Opd.tmp _ _ rfl)) ?_
    first | refine Run.pure (dd := some 14) rfl rfl (op_move rfl (Opd.tmp _ _ rfl)) ?_ | refine Run.pure (dd := some 14) rfl rfl (op_junk (.inl rfl)) ?_
    first | refine Run.pureG (dd := some 15) rfl rfl rfl tG (op_move rfl (Opd.tmp _ _ rfl)) ?_ | refine Run.pureG (dd := some 15) rfl rfl rfl tG (op_junk (.inl rfl)) ?_
    first | refine Run.pureG (dd := some 16) rfl rfl rfl tG (op_move rfl (Opd.tmp _ _ rfl)) ?_ | refine Run.pureG (dd := some 16) rfl rfl rfl tG (op_junk (.inl rfl)) ?_
    first | refine Run.pureG (dd := some 17) rfl rfl rfl tG (op_len_fz rfl (by first | exact Opd.topt _ _ _ rfl tO | exact Opd.nil _ _ (Opd.topt _ _ _ rfl tO)) (by first | exact List.length_map _ | rfl)) ?_ | refine Run.pureG (dd := some 17) rfl rfl rfl tG (op_len_sl rfl (Opd.topt _ _ _ rfl tO)) ?_
    refine Run.pureG (dd := some 18) rfl rfl rfl tG (op_lss rfl (Opd.topt _ _ _ rfl tO) (Opd.topt _ _ _ rfl tO)) ?_
    refine Run.pure (dd := some 19) rfl rfl (op_pick_and rfl (Opd.tmp _ _ rfl) (Opd.topt _ _ _ rfl tO)) ?_
    refine Run.nil (FinR.mk ?_)
    refine nK ?_
    refine n_cond _ rfl (fun hb => ?_) (fun hb => ?_)
    · have hlt : i < a.length := by simp at hb; omega
      have hjt : j < b.length := by simp at hb; omega
      have hr1 := row_at encC a i hlt
      have hr2 := row_at encC b j hjt
      have hs := ha a[i] (List.getElem_mem hlt)
      have ht := hb0 b[j] (List.getElem_mem hjt)
      have hda := List.drop_eq_getElem_cons hlt
      have hdb := List.drop_eq_getElem_cons hjt
      rw [hda, hdb, comS_cons, ← hda, ← hdb] at hacc
      have hK1 := fun acc' h => hK (i + 1, j, acc') ⟨by dsimp only; omega, by dsimp only; omega, h⟩ (by simp; omega)
      have hK2 := fun acc' h => hK (i, j + 1, acc') ⟨by dsimp only; omega, by dsimp only; omega, h⟩ (by simp; omega)
      simp only at hK1 hK2
      generalize a[i] = s at *
      generalize b[j] = t at *
      refine nK ?_
      refine s_draw mixed ?_
      first | refine Run.pure (dd := some 20) rfl rfl (op_move rfl (Opd.tmp _ _ rfl)) ?_ | refine Run.pure (dd := some 20) rfl rfl (op_junk (.inl rfl)) ?_
      first | refine Run.pure (dd := some 21) rfl rfl (op_move rfl (Opd.tmp _ _ rfl)) ?_ | refine Run.pure (dd := some 21) rfl rfl (op_junk (.inl rfl)) ?_
      first | refine Run.pure (dd := some 22) rfl rfl (op_idx_sl0 _ rfl (Opd.tmp _ _ rfl) (Opd.tmp _ _ rfl) tD) ?_ | refine Run.pure (dd := some 22) rfl rfl (op_idx_fz _ rfl (Opd.tmp _ _ rfl) (Opd.tmp _ _ rfl) tF) ?_
      first | refine Run.pure (dd := some 23) rfl rfl (op_fld_ptr (by decide) rfl (Opd.tmp _ _ rfl)) ?_ | refine Run.pure (dd := some 23) rfl rfl (op_fld_fz (by decide) rfl (Opd.tmp _ _ rfl) tR) ?_
      first | refine Run.load (dd := some 24) rfl rfl (op_load1_flat rfl (Opd.tmp _ _ rfl) tH rfl) ?_ | refine Run.pure (dd := some 24) rfl rfl (op_load1_fz rfl (Opd.tmp _ _ rfl) rfl) ?_ | refine Run.load (dd := some 24) rfl rfl (op_load1_refs rfl (Opd.tmp _ _ rfl) tH rfl) ?_
      first | refine Run.pure (dd := some 25) rfl rfl (op_move rfl (Opd.tmp _ _ rfl)) ?_ | refine Run.pure (dd := some 25) rfl rfl (op_junk (.inl rfl)) ?_
      first | refine Run.pure (dd := some 26) rfl rfl (op_move rfl (Opd.tmp _ _ rfl)) ?_ | refine Run.pure (dd := some 26) rfl rfl (op_junk (.inl rfl)) ?_
      first | refine Run.pure (dd := some 27) rfl rfl (op_idx_sl0 _ rfl (Opd.tmp _ _ rfl) (Opd.tmp _ _ rfl) tD) ?_ | refine Run.pure (dd := some 27) rfl rfl (op_idx_fz _ rfl (Opd.tmp _ _ rfl) (Opd.tmp _ _ rfl) tF) ?_
      first | refine Run.pure (dd := some 28) rfl rfl (op_fld_ptr (by decide) rfl (Opd.tmp _ _ rfl)) ?_ | refine Run.pure (dd := some 28) rfl rfl (op_fld_fz (by decide) rfl (Opd.tmp _ _ rfl) tR) ?_
      first | refine Run.load (dd := some 29) rfl rfl (op_load1_flat rfl (Opd.tmp _ _ rfl) tH rfl) ?_ | refine Run.pure (dd := some 29) rfl rfl (op_load1_fz rfl (Opd.tmp _ _ rfl) rfl) ?_ | refine Run.load (dd := some 29) rfl rfl (op_load1_refs rfl (Opd.tmp _ _ rfl) tH rfl) ?_
      refine Run.pure (dd := some 30) rfl rfl (op_max rfl (Opd.tmp _ _ rfl) (Opd.tmp _ _ rfl)) ?_
      first | refine Run.pure (dd := some 31) rfl rfl (op_move rfl (Opd.tmp _ _ rfl)) ?_ | refine Run.pure (dd := some 31) rfl rfl (op_junk (.inl rfl)) ?_
      first | refine Run.pure (dd := some 32) rfl rfl (op_move rfl (Opd.tmp _ _ rfl)) ?_ | refine Run.pure (dd := some 32) rfl rfl (op_junk (.inl rfl)) ?_
      first | refine Run.pure (dd := some 33) rfl rfl (op_idx_sl0 _ rfl (Opd.tmp _ _ rfl) (Opd.tmp _ _ rfl) tD) ?_ | refine Run.pure (dd := some 33) rfl rfl (op_idx_fz _ rfl (Opd.tmp _ _ rfl) (Opd.tmp _ _ rfl) tF) ?_
      first | refine Run.pure (dd := some 34) rfl rfl (op_fld_ptr (by decide) rfl (Opd.tmp _ _ rfl)) ?_ | refine Run.pure (dd := some 34) rfl rfl (op_fld_fz (by decide) rfl (Opd.tmp _ _ rfl) tR) ?_
      first | refine Run.load (dd := some 35) rfl rfl (op_load1_flat rfl (Opd.tmp _ _ rfl) tH rfl) ?_ | refine Run.pure (dd := some 35) rfl rfl (op_load1_fz rfl (Opd.tmp _ _ rfl) rfl) ?_ | refine Run.load (dd := some 35) rfl rfl (op_load1_refs rfl (Opd.tmp _ _ rfl) tH rfl) ?_
      first | refine Run.pure (dd := some 36) rfl rfl (op_move rfl (Opd.tmp _ _ rfl)) ?_ | refine Run.pure (dd := some 36) rfl rfl (op_junk (.inl rfl)) ?_
      first | refine Run.pure (dd := some 37) rfl rfl (op_move rfl (Opd.tmp _ _ rfl)) ?_ | refine Run.pure (dd := some 37) rfl rfl (op_junk (.inl rfl)) ?_
      first | refine Run.pure (dd := some 38) rfl rfl (op_idx_sl0 _ rfl (Opd.tmp _ _ rfl) (Opd.tmp _ _ rfl) tD) ?_ | refine Run.pure (dd := some 38) rfl rfl (op_idx_fz _ rfl (Opd.tmp _ _ rfl) (Opd.tmp _ _ rfl) tF) ?_
      first | refine Run.pure (dd := some 39) rfl rfl (op_fld_ptr (by decide) rfl (Opd.tmp _ _ rfl)) ?_ | refine Run.pure (dd := some 39) rfl rfl (op_fld_fz (by decide) rfl (Opd.tmp _ _ rfl) tR) ?_
      first | refine Run.load (dd := some 40) rfl rfl (op_load1_flat rfl (Opd.tmp _ _ rfl) tH rfl) ?_ | refine Run.pure (dd := some 40) rfl rfl (op_load1_fz rfl (Opd.tmp _ _ rfl) rfl) ?_ | refine Run.load (dd := some 40) rfl rfl (op_load1_refs rfl (Opd.tmp _ _ rfl) tH rfl) ?_
      refine Run.pure (dd := some 41) rfl rfl (op_min rfl (Opd.tmp _ _ rfl) (Opd.tmp _ _ rfl)) ?_
      first | refine Run.pure (dd := some 8) rfl rfl (op_assign rfl (Opd.tmp _ _ rfl)) ?_ | refine Run.pure (dd := some 8) rfl rfl (op_junk (.inr rfl)) ?_
      first | refine Run.pure (dd := some 9) rfl rfl (op_assign rfl (Opd.tmp _ _ rfl)) ?_ | refine Run.pure (dd := some 9) rfl rfl (op_junk (.inr rfl)) ?_
      refine Run.nil (FinD.mk (by kernel_rfl) ?_)
      refine nK ?_
      refine s_reg rfl ?_
      first | refine Run.pure (dd := some 42) rfl rfl (op_move rfl (Opd.tmp _ _ rfl)) ?_ | refine Run.pure (dd := some 42) rfl rfl (op_junk (.inl rfl)) ?_
      first | refine Run.pure (dd := some 43) rfl rfl (op_move rfl (Opd.tmp _ _ rfl)) ?_ | refine Run.pure (dd := some 43) rfl rfl (op_junk (.inl rfl)) ?_
      refine Run.pure (dd := some 44) rfl rfl (op_leq rfl (Opd.tmp _ _ rfl) (Opd.tmp _ _ rfl)) ?_
      refine Run.nil (FinR.mk ?_)
      refine nK ?_
      refine n_cond _ rfl (fun hb => ?_) (fun hb => ?_)
      · have hc : max s.lo t.lo < min s.hi t.hi := by simp at hb; omega
        rw [if_pos hc] at hacc
        refine nK ?_
        refine s_reg rfl ?_
        first | refine Run.pure (dd := some 45) rfl rfl (op_move rfl (Opd.tmp _ _ rfl)) ?_ | refine Run.pure (dd := some 45) rfl rfl (op_junk (.inl rfl)) ?_
        first | refine Run.pure (dd := some 46) rfl rfl (op_move rfl (Opd.tmp _ _ rfl)) ?_ | refine Run.pure (dd := some 46) rfl rfl (op_junk (.inl rfl)) ?_
        first | refine Run.pure (dd := some 47) rfl rfl (op_move rfl (Opd.tmp _ _ rfl)) ?_ | refine Run.pure (dd := some 47) rfl rfl (op_junk (.inl rfl)) ?_
        first | refine Run.pure (dd := some 48) rfl rfl (op_build rfl rfl rfl (FillF.cons _ _ _ _ _ _ _ _ _ _ (by rfl) (Opd.tmp _ _ rfl) tC (by rfl) tR (FillF.cons _ _ _ _ _ _ _ _ _ _ (by rfl) (Opd.tmp _ _ rfl) tC (by rfl) tR (FillF.nil _)))) ?_ | refine Run.pure (dd := some 48) rfl rfl (op_buildP rfl rfl rfl rfl (FillP.cons _ _ _ _ _ _ _ _ _ _ (by rfl) (Opd.tmp _ _ rfl) tP (by rfl) tR (FillP.cons _ _ _ _ _ _ _ _ _ _ (by rfl) (Opd.tmp _ _ rfl) tP (by rfl) tR (FillP.nil _)))) ?_
        refine Run.pure (dd := some 49) rfl rfl (op_buildSlice_fz rfl (RowsF.cons _ _ _ _ _ _ (Opd.tmp _ _ rfl) tC (by rfl) (RowsF.nil _)) rfl rfl) ?_
        first | refine Run.eff (dd := some 50) rfl rfl (op_append_own0 rfl (Opd.tmp _ _ rfl) (Opd.tmp _ _ rfl) rfl (by first | rfl | simp) rfl (by first | rfl | simp) rfl rfl tB tB) ?_ | refine Run.eff (dd := some 50) rfl rfl (op_append rfl (Opd.tmp _ _ rfl) (by first | exact Opd.tmp _ _ rfl | exact Opd.nil _ _ (Opd.tmp _ _ rfl)) rfl (by first | rfl | simp) rfl rfl tB tB) ?_
        first | refine Run.pure (dd := some 5) rfl rfl (op_assign rfl (Opd.tmp _ _ rfl)) ?_ | refine Run.pure (dd := some 5) rfl rfl (op_junk (.inr rfl)) ?_
        refine Run.nil (FinR.mk ?_)
        refine nK ?_
        refine s_draw mixed ?_
        first | refine Run.pure (dd := some 51) rfl rfl (op_move rfl (Opd.tmp _ _ rfl)) ?_ | refine Run.pure (dd := some 51) rfl rfl (op_junk (.inl rfl)) ?_
        first | refine Run.pure (dd := some 52) rfl rfl (op_move rfl (Opd.tmp _ _ rfl)) ?_ | refine Run.pure (dd := some 52) rfl rfl (op_junk (.inl rfl)) ?_
        first | refine Run.pure (dd := some 53) rfl rfl (op_idx_sl0 _ rfl (Opd.tmp _ _ rfl) (Opd.tmp _ _ rfl) tD) ?_ | refine Run.pure (dd := some 53) rfl rfl (op_idx_fz _ rfl (Opd.tmp _ _ rfl) (Opd.tmp _ _ rfl) tF) ?_
        first | refine Run.pure (dd := some 54) rfl rfl (op_fld_ptr (by decide) rfl (Opd.tmp _ _ rfl)) ?_ | refine Run.pure (dd := some 54) rfl rfl (op_fld_fz (by decide) rfl (Opd.tmp _ _ rfl) tR) ?_
        first | refine Run.load (dd := some 55) rfl rfl (op_load1_flat rfl (Opd.tmp _ _ rfl) tH rfl) ?_ | refine Run.pure (dd := some 55) rfl rfl (op_load1_fz rfl (Opd.tmp _ _ rfl) rfl) ?_ | refine Run.load (dd := some 55) rfl rfl (op_load1_refs rfl (Opd.tmp _ _ rfl) tH rfl) ?_
        first | refine Run.pure (dd := some 56) rfl rfl (op_move rfl (Opd.tmp _ _ rfl)) ?_ | refine Run.pure (dd := some 56) rfl rfl (op_junk (.inl rfl)) ?_
        first | refine Run.pure (dd := some 57) rfl rfl (op_move rfl (Opd.tmp _ _ rfl)) ?_ | refine Run.pure (dd := some 57) rfl rfl (op_junk (.inl rfl)) ?_
        first | refine Run.pure (dd := some 58) rfl rfl (op_idx_sl0 _ rfl (Opd.tmp _ _ rfl) (Opd.tmp _ _ rfl) tD) ?_ | refine Run.pure (dd := some 58) rfl rfl (op_idx_fz _ rfl (Opd.tmp _ _ rfl) (Opd.tmp _ _ rfl) tF) ?_
        first | refine Run.pure (dd := some 59) rfl rfl (op_fld_ptr (by decide) rfl (Opd.tmp _ _ rfl)) ?_ | refine Run.pure (dd := some 59) rfl rfl (op_fld_fz (by decide) rfl (Opd.tmp _ _ rfl) tR) ?_
        first | refine Run.load (dd := some 60) rfl rfl (op_load1_flat rfl (Opd.tmp _ _ rfl) tH rfl) ?_ | refine Run.pure (dd := some 60) rfl rfl (op_load1_fz rfl (Opd.tmp _ _ rfl) rfl) ?_ | refine Run.load (dd := some 60) rfl rfl (op_load1_refs rfl (Opd.tmp _ _ rfl) tH rfl) ?_
        refine Run.pure (dd := some 61) rfl rfl (op_lss rfl (Opd.tmp _ _ rfl) (Opd.tmp _ _ rfl)) ?_
        refine Run.nil (FinD.mk (by kernel_rfl) ?_)
        refine nK ?_
        refine n_cond _ rfl (fun hb => ?_) (fun hb => ?_)
        · rw [if_pos (by simp at hb; omega)] at hacc
          refine nK ?_
          refine s_reg rfl ?_
          first | refine Run.pure (dd := some 62) rfl rfl (op_move rfl (Opd.tmp _ _ rfl)) ?_ | refine Run.pure (dd := some 62) rfl rfl (op_junk (.inl rfl)) ?_
          refine Run.pure (dd := some 63) rfl rfl (op_add rfl (Opd.tmp _ _ rfl) (Opd.const _) tI) ?_
          first | refine Run.pure (dd := some 6) rfl rfl (op_assign rfl (Opd.tmp _ _ rfl)) ?_ | refine Run.pure (dd := some 6) rfl rfl (op_junk (.inr rfl)) ?_
          refine Run.nil (FinR.mk ?_)
          refine nK ?_
          refine Next.weakS [5] [] (by rfl) (by first | exact keeps0 hC _ | exact keepsN hC _ rfl) (by repeat (first | exact trivial | refine ⟨⟨_, rfl, .inl ⟨rfl, rfl⟩⟩, ?_⟩ | refine ⟨⟨_, rfl, .inl ⟨slEq rfl tN, rfl⟩⟩, ?_⟩ | refine ⟨⟨_, rfl, .inl ⟨ivEq tX, rfl⟩⟩, ?_⟩)) (by repeat (first | exact trivial | refine ⟨⟨rfl, rfl, rfl, tL⟩, ?_⟩ | refine ⟨⟨rfl, rfl, rfEq rfl tU, tL⟩, ?_⟩ | refine ⟨⟨rfl, rfl, flEq rfl (by first | (simp; done) | (simp; omega) | (simp [encP]; done) | simp [maxC, minC]), trivial⟩, ?_⟩)) rfl (hK1 (acc ++ [⟨max s.lo t.lo, min s.hi t.hi⟩]) (by rw [← hacc]; simp))
        · rw [if_neg (by simp at hb; omega)] at hacc
          refine nK ?_
          refine s_reg rfl ?_
          first | refine Run.pure (dd := some 64) rfl rfl (op_move rfl (Opd.tmp _ _ rfl)) ?_ | refine Run.pure (dd := some 64) rfl rfl (op_junk (.inl rfl)) ?_
          refine Run.pure (dd := some 65) rfl rfl (op_add rfl (Opd.tmp _ _ rfl) (Opd.const _) tI) ?_
          first | refine Run.pure (dd := some 7) rfl rfl (op_assign rfl (Opd.tmp _ _ rfl)) ?_ | refine Run.pure (dd := some 7) rfl rfl (op_junk (.inr rfl)) ?_
          refine Run.nil (FinR.mk ?_)
          refine nK ?_
          refine Next.weakS [5] [] (by rfl) (by first | exact keeps0 hC _ | exact keepsN hC _ rfl) (by repeat (first | exact trivial | refine ⟨⟨_, rfl, .inl ⟨rfl, rfl⟩⟩, ?_⟩ | refine ⟨⟨_, rfl, .inl ⟨slEq rfl tN, rfl⟩⟩, ?_⟩ | refine ⟨⟨_, rfl, .inl ⟨ivEq tX, rfl⟩⟩, ?_⟩)) (by repeat (first | exact trivial | refine ⟨⟨rfl, rfl, rfl, tL⟩, ?_⟩ | refine ⟨⟨rfl, rfl, rfEq rfl tU, tL⟩, ?_⟩ | refine ⟨⟨rfl, rfl, flEq rfl (by first | (simp; done) | (simp; omega) | (simp [encP]; done) | simp [maxC, minC]), trivial⟩, ?_⟩)) rfl (hK2 (acc ++ [⟨max s.lo t.lo, min s.hi t.hi⟩]) (by rw [← hacc]; simp))
      · have hc : ¬ max s.lo t.lo < min s.hi t.hi := by simp at hb; omega
        rw [if_neg hc, List.nil_append] at hacc
        refine nK ?_
        refine s_draw mixed ?_
        first | refine Run.pure (dd := some 51) rfl rfl (op_move rfl (Opd.tmp _ _ rfl)) ?_ | refine Run.pure (dd := some 51) rfl rfl (op_junk (.inl rfl)) ?_
        first | refine Run.pure (dd := some 52) rfl rfl (op_move rfl (Opd.tmp _ _ rfl)) ?_ | refine Run.pure (dd := some 52) rfl rfl (op_junk (.inl rfl)) ?_
        first | refine Run.pure (dd := some 53) rfl rfl (op_idx_sl0 _ rfl (Opd.tmp _ _ rfl) (Opd.tmp _ _ rfl) tD) ?_ | refine Run.pure (dd := some 53) rfl rfl (op_idx_fz _ rfl (Opd.tmp _ _ rfl) (Opd.tmp _ _ rfl) tF) ?_
        first | refine Run.pure (dd := some 54) rfl rfl (op_fld_ptr (by decide) rfl (Opd.tmp _ _ rfl)) ?_ | refine Run.pure (dd := some 54) rfl rfl (op_fld_fz (by decide) rfl (Opd.tmp _ _ rfl) tR) ?_
        first | refine Run.load (dd := some 55) rfl rfl (op_load1_flat rfl (Opd.tmp _ _ rfl) tH rfl) ?_ | refine Run.pure (dd := some 55) rfl rfl (op_load1_fz rfl (Opd.tmp _ _ rfl) rfl) ?_ | refine Run.load (dd := some 55) rfl rfl (op_load1_refs rfl (Opd.tmp _ _ rfl) tH rfl) ?_
        first | refine Run.pure (dd := some 56) rfl rfl (op_move rfl (Opd.tmp _ _ rfl)) ?_ | refine Run.pure (dd := some 56) rfl rfl (op_junk (.inl rfl)) ?_
        first | refine Run.pure (dd := some 57) rfl rfl (op_move rfl (Opd.tmp _ _ rfl)) ?_ | refine Run.pure (dd := some 57) rfl rfl (op_junk (.inl rfl)) ?_
        first | refine Run.pure (dd := some 58) rfl rfl (op_idx_sl0 _ rfl (Opd.tmp _ _ rfl) (Opd.tmp _ _ rfl) tD) ?_ | refine Run.pure (dd := some 58) rfl rfl (op_idx_fz _ rfl (Opd.tmp _ _ rfl) (Opd.tmp _ _ rfl) tF) ?_
        first | refine Run.pure (dd := some 59) rfl rfl (op_fld_ptr (by decide) rfl (Opd.tmp _ _ rfl)) ?_ | refine Run.pure (dd := some 59) rfl rfl (op_fld_fz (by decide) rfl (Opd.tmp _ _ rfl) tR) ?_
        first | refine Run.load (dd := some 60) rfl rfl (op_load1_flat rfl (Opd.tmp _ _ rfl) tH rfl) ?_ | refine Run.pure (dd := some 60) rfl rfl (op_load1_fz rfl (Opd.tmp _ _ rfl) rfl) ?_ | refine Run.load (dd := some 60) rfl rfl (op_load1_refs rfl (Opd.tmp _ _ rfl) tH rfl) ?_
        refine Run.pure (dd := some 61) rfl rfl (op_lss rfl (Opd.tmp _ _ rfl) (Opd.tmp _ _ rfl)) ?_
        refine Run.nil (FinD.mk (by kernel_rfl) ?_)
        refine nK ?_
        refine n_cond _ rfl (fun hb => ?_) (fun hb => ?_)
        · rw [if_pos (by simp at hb; omega)] at hacc
          refine nK ?_
          refine s_reg rfl ?_
          first | refine Run.pure (dd := some 62) rfl rfl (op_move rfl (Opd.tmp _ _ rfl)) ?_ | refine Run.pure (dd := some 62) rfl rfl (op_junk (.inl rfl)) ?_
          refine Run.pure (dd := some 63) rfl rfl (op_add rfl (Opd.tmp _ _ rfl) (Opd.const _) tI) ?_
          first | refine Run.pure (dd := some 6) rfl rfl (op_assign rfl (Opd.tmp _ _ rfl)) ?_ | refine Run.pure (dd := some 6) rfl rfl (op_junk (.inr rfl)) ?_
          refine Run.nil (FinR.mk ?_)
          refine nK ?_
          refine Next.weakS [5] [] (by rfl) (by first | exact keeps0 hC _ | exact keepsN hC _ rfl) (by repeat (first | exact trivial | refine ⟨⟨_, rfl, .inl ⟨rfl, rfl⟩⟩, ?_⟩ | refine ⟨⟨_, rfl, .inl ⟨slEq rfl tN, rfl⟩⟩, ?_⟩ | refine ⟨⟨_, rfl, .inl ⟨ivEq tX, rfl⟩⟩, ?_⟩)) (by repeat (first | exact trivial | refine ⟨⟨rfl, rfl, rfl, tL⟩, ?_⟩ | refine ⟨⟨rfl, rfl, rfEq rfl tU, tL⟩, ?_⟩ | refine ⟨⟨rfl, rfl, flEq rfl (by first | (simp; done) | (simp; omega) | (simp [encP]; done) | simp [maxC, minC]), trivial⟩, ?_⟩)) rfl (hK1 acc hacc)
        · rw [if_neg (by simp at hb; omega)] at hacc
          refine nK ?_
          refine s_reg rfl ?_
          first | refine Run.pure (dd := some 64) rfl rfl (op_move rfl (Opd.tmp _ _ rfl)) ?_ | refine Run.pure (dd := some 64) rfl rfl (op_junk (.inl rfl)) ?_
          refine Run.pure (dd := some 65) rfl rfl (op_add rfl (Opd.tmp _ _ rfl) (Opd.const _) tI) ?_
          first | refine Run.pure (dd := some 7) rfl rfl (op_assign rfl (Opd.tmp _ _ rfl)) ?_ | refine Run.pure (dd := some 7) rfl rfl (op_junk (.inr rfl)) ?_
          refine Run.nil (FinR.mk ?_)
          refine nK ?_
          refine Next.weakS [5] [] (by rfl) (by first | exact keeps0 hC _ | exact keepsN hC _ rfl) (by repeat (first | exact trivial | refine ⟨⟨_, rfl, .inl ⟨rfl, rfl⟩⟩, ?_⟩ | refine ⟨⟨_, rfl, .inl ⟨slEq rfl tN, rfl⟩⟩, ?_⟩ | refine ⟨⟨_, rfl, .inl ⟨ivEq tX, rfl⟩⟩, ?_⟩)) (by repeat (first | exact trivial | refine ⟨⟨rfl, rfl, rfl, tL⟩, ?_⟩ | refine ⟨⟨rfl, rfl, rfEq rfl tU, tL⟩, ?_⟩ | refine ⟨⟨rfl, rfl, flEq rfl (by first | (simp; done) | (simp; omega) | (simp [encP]; done) | simp [maxC, minC]), trivial⟩, ?_⟩)) rfl (hK2 acc hacc)
    · have he : comS (a.drop i) (b.drop j) = [] := by
        by_cases h : i < a.length
        · have : j = b.length := by simp at hb; omega
          rw [this, List.drop_length, comS_nil]
        · have : i = a.length := by omega
          rw [this, List.drop_length, comS_nil']
      rw [he, List.append_nil] at hacc
      rw [← hacc]
      refine nK ?_
      refine s_reg rfl ?_
      first | refine Run.pure (dd := some 66) rfl rfl (op_move rfl (Opd.tmp _ _ rfl)) ?_ | refine Run.pure (dd := some 66) rfl rfl (op_junk (.inl rfl)) ?_
      first | refine Run.pure (dd := some 4) rfl rfl (op_assign rfl (Opd.tmp _ _ rfl)) ?_ | refine Run.pure (dd := some 4) rfl rfl (op_junk (.inr rfl)) ?_
      refine Run.nil (FinR.mk ?_)
      refine nK ?_
      (first | exact s_o1 hC rfl tV | exact s_o2 hC rfl tV tV | exact s_o3 hC rfl tV tV tV | exact s_out0 hC rfl | exact s_outO hC rfl rfl rfl)
end Go.Proofs.Ytdebjffddkgfbaa
namespace Go.Proofs.Ytdebjffddkgfbaa
open Go Go.RT Go.Proofs Go.Pl
set_option linter.all false
set_option maxRecDepth 20000
theorem cspans_f (l : List Pfx) (hl : okL l) (hn : l.length ≤ 1000000) : Meets Try.prog 36 ([VP l].map PV.fz) 0 [] (.sl 0 2 0 (spansOf l).length) [(0, OC (spansOf l))] 1 := by
  refine Meets.intro Try.func36 rfl (Nat.le_of_ble_eq_true rfl) fun C hC => ?_
  simp only [List.map, argEnv, Nat.reduceAdd]
  refine nK ?_
  refine s_reg rfl ?_
  first | refine Run.pure (dd := some 2) rfl rfl (op_assign rfl (Opd.const _)) ?_ | refine Run.pure (dd := some 2) rfl rfl (op_junk (.inr rfl)) ?_
  refine Run.nil (FinR.mk ?_)
  refine nK ?_
  refine s_reg rfl ?_
  first | refine Run.pure (dd := some 3) rfl rfl (op_assign rfl (Opd.const _)) ?_ | refine Run.pure (dd := some 3) rfl rfl (op_junk (.inr rfl)) ?_
  refine Run.nil (FinR.mk ?_)
  refine nK ?_
  refine s_reg rfl ?_
  first | refine Run.pure (dd := some 6) rfl rfl (op_move rfl (Opd.tmp _ _ rfl)) ?_ | refine Run.pure (dd := some 6) rfl rfl (op_junk (.inl rfl)) ?_
  first | refine Run.pure (dd := some 7) rfl rfl (op_len_fz rfl (by first | exact Opd.tmp _ _ rfl | exact Opd.nil _ _ (Opd.tmp _ _ rfl)) (by first | exact List.length_map _ | rfl)) ?_ | refine Run.pure (dd := some 7) rfl rfl (op_len_sl rfl (Opd.tmp _ _ rfl)) ?_
  first | refine Run.pure (dd := some 8) rfl rfl (op_move rfl (Opd.const _)) ?_ | refine Run.pure (dd := some 8) rfl rfl (op_junk (.inl rfl)) ?_
  refine Run.nil (FinR.mk ?_)
  refine nK ?_
  refine Next.adopt 3 2 rfl ?_
  refine n_loop (ι := Nat) (fun i => ([(0, .fz (VP l)), (3, .sl 0 2 0 (runsUp l i).length), (6, .fz (VP l)), (7, IV .i64 l.length), (8, IV .i64 i)], [(0, OC (runsUp l i))], 1)) (fun i => i ≤ l.length) (fun i => l.length - i) 0 (Nat.zero_le _) ?_ ?_
  · refine Next.weakS [3] [] (by rfl) (by first | exact keeps0 hC _ | exact keepsN hC _ rfl) (by repeat (first | exact trivial | refine ⟨⟨_, rfl, .inl ⟨rfl, rfl⟩⟩, ?_⟩ | refine ⟨⟨_, rfl, .inl ⟨slEq rfl tN, rfl⟩⟩, ?_⟩ | refine ⟨⟨_, rfl, .inl ⟨ivEq tX, rfl⟩⟩, ?_⟩)) (by repeat (first | exact trivial | refine ⟨⟨rfl, rfl, rfl, tL⟩, ?_⟩ | refine ⟨⟨rfl, rfl, rfEq rfl tU, tL⟩, ?_⟩ | refine ⟨⟨rfl, rfl, flEq rfl (by first | (simp; done) | (simp; omega) | (simp [encP]; done) | simp [maxC, minC]), trivial⟩, ?_⟩)) rfl (rel_intro)
  · intro i hi K hK
    refine nK ?_
    refine s_reg rfl ?_
    refine Run.pure (dd := some 9) rfl rfl (op_lss rfl (Opd.tmp _ _ rfl) (Opd.tmp _ _ rfl)) ?_
    refine Run.nil (FinR.mk ?_)
    refine nK ?_
    refine n_cond _ rfl (fun hb => ?_) (fun hb => ?_)
    · have hlt : i < l.length := by simp at hb; omega
      have hr1 := row_at encP l i hlt
      have hok := hl l[i] (List.getElem_mem hlt)
      have hle := runs_le l i
      have hs := runs_succ l i hlt
      refine nK ?_
      refine s_reg rfl ?_
      first | refine Run.pure (dd := some 10) rfl rfl (op_idx_sl0 _ rfl (Opd.tmp _ _ rfl) (Opd.tmp _ _ rfl) tD) ?_ | refine Run.pure (dd := some 10) rfl rfl (op_idx_fz _ rfl (Opd.tmp _ _ rfl) (Opd.tmp _ _ rfl) tF) ?_
      first | refine Run.load (dd := some 11) rfl rfl (op_loadw_flat rfl (Opd.tmp _ _ rfl) tH rfl) ?_ | refine Run.pure (dd := some 11) rfl rfl (op_loadw_fz rfl (Opd.tmp _ _ rfl) rfl) ?_ | refine Run.load (dd := some 11) rfl rfl (op_loadn_flat rfl (Opd.tmp _ _ rfl) tH tR tR) ?_ | refine Run.pure (dd := some 11) rfl rfl (op_loadn_fz rfl (Opd.tmp _ _ rfl) tR) ?_ | refine Run.load (dd := some 11) rfl rfl (op_loadn_refs rfl (Opd.tmp _ _ rfl) tH tR tR) ?_
      refine Run.eff (dd := some 5) rfl rfl (op_alloc rfl rfl rfl rfl) ?_
      first | refine Run.eff (dd := none) rfl rfl (op_store_flat rfl (Opd.tmp _ _ rfl) (Opd.tmp _ _ rfl) tC rfl rfl (by first | rfl | assumption) tS) ?_ | refine Run.eff (dd := none) rfl rfl (op_store_refs rfl (Opd.tmp _ _ rfl) (Opd.tmp _ _ rfl) tP rfl rfl rfl tS) ?_
      refine Run.nil (FinR.mk ?_)
      refine nK ?_
      refine s_reg rfl ?_
      first | refine Run.load (dd := some 12) rfl rfl (op_loadw_flat rfl (Opd.tmp _ _ rfl) tH rfl) ?_ | refine Run.pure (dd := some 12) rfl rfl (op_loadw_fz rfl (Opd.tmp _ _ rfl) rfl) ?_ | refine Run.load (dd := some 12) rfl rfl (op_loadn_flat rfl (Opd.tmp _ _ rfl) tH tR tR) ?_ | refine Run.pure (dd := some 12) rfl rfl (op_loadn_fz rfl (Opd.tmp _ _ rfl) tR) ?_ | refine Run.load (dd := some 12) rfl rfl (op_loadn_refs rfl (Opd.tmp _ _ rfl) tH tR tR) ?_
      refine Run.pure (dd := some 13) rfl rfl (op_call_pure (fun _ => valid_any _ (by assumption)) rfl (Opd.func _) (Opds.cons _ _ _ _ (Opd.tmp _ _ rfl) Opds.nil)) ?_
      refine Run.nil (FinR.mk ?_)
      refine nK ?_
      refine n_cond _ rfl (fun hb => ?_) (fun hb => ?_)
      · rw [if_pos hb] at hs
        have hK1 := hK (i + 1) (by omega) (by omega)
        have hll := lastN_lt l[i] hok
        have hlq := lastN_eq hb
        have hsp := sz_pos l[i]
        have hlo := hok.1
        rw [hs, show toS l[i] = ⟨l[i].addr, lastN l[i] + 1⟩ by simp [toS]; omega] at hK1
        refine nK ?_
        refine s_draw mixed ?_
        first | refine Run.pure (dd := some 14) rfl rfl (op_move rfl (Opd.tmp _ _ rfl)) ?_ | refine Run.pure (dd := some 14) rfl rfl (op_junk (.inl rfl)) ?_
        first | refine Run.pure (dd := some 15) rfl rfl (op_fld_ptr (by decide) rfl (Opd.tmp _ _ rfl)) ?_ | refine Run.pure (dd := some 15) rfl rfl (op_fld_fz (by decide) rfl (Opd.tmp _ _ rfl) tR) ?_
        first | refine Run.load (dd := some 16) rfl rfl (op_load1_flat rfl (Opd.tmp _ _ rfl) tH rfl) ?_ | refine Run.pure (dd := some 16) rfl rfl (op_load1_fz rfl (Opd.tmp _ _ rfl) rfl) ?_ | refine Run.load (dd := some 16) rfl rfl (op_load1_refs rfl (Opd.tmp _ _ rfl) tH rfl) ?_
        refine Run.pure (dd := some 17) rfl rfl (op_conv rfl (Opd.tmp _ _ rfl) tI) ?_
        first | refine Run.load (dd := some 18) rfl rfl (op_loadw_flat rfl (Opd.tmp _ _ rfl) tH rfl) ?_ | refine Run.pure (dd := some 18) rfl rfl (op_loadw_fz rfl (Opd.tmp _ _ rfl) rfl) ?_ | refine Run.load (dd := some 18) rfl rfl (op_loadn_flat rfl (Opd.tmp _ _ rfl) tH tR tR) ?_ | refine Run.pure (dd := some 18) rfl rfl (op_loadn_fz rfl (Opd.tmp _ _ rfl) tR) ?_ | refine Run.load (dd := some 18) rfl rfl (op_loadn_refs rfl (Opd.tmp _ _ rfl) tH tR tR) ?_
        refine Run.pure (dd := some 19) rfl rfl (op_call_pure (fun _ => last_any _ (by assumption)) rfl (Opd.func _) (Opds.cons _ _ _ _ (Opd.tmp _ _ rfl) Opds.nil)) ?_
        refine Run.pure (dd := some 20) rfl rfl (op_conv rfl (Opd.tmp _ _ rfl) tI) ?_
        first | refine Run.pure (dd := some 21) rfl rfl (op_build rfl rfl rfl (FillF.cons _ _ _ _ _ _ _ _ _ _ (by rfl) (Opd.tmp _ _ rfl) tC (by rfl) tR (FillF.cons _ _ _ _ _ _ _ _ _ _ (by rfl) (Opd.tmp _ _ rfl) tC (by rfl) tR (FillF.nil _)))) ?_ | refine Run.pure (dd := some 21) rfl rfl (op_buildP rfl rfl rfl rfl (FillP.cons _ _ _ _ _ _ _ _ _ _ (by rfl) (Opd.tmp _ _ rfl) tP (by rfl) tR (FillP.cons _ _ _ _ _ _ _ _ _ _ (by rfl) (Opd.tmp _ _ rfl) tP (by rfl) tR (FillP.nil _)))) ?_
        refine Run.pure (dd := some 22) rfl rfl (op_buildSlice_fz rfl (RowsF.cons _ _ _ _ _ _ (Opd.tmp _ _ rfl) tC (by rfl) (RowsF.nil _)) rfl rfl) ?_
        first | refine Run.effW (dd := some 23) rfl rfl (op_append_own0 rfl (Opd.tmp _ _ rfl) (Opd.tmp _ _ rfl) rfl (by first | rfl | simp) rfl (by first | rfl | simp) rfl rfl tB tB) tE ?_ | refine Run.effW (dd := some 23) rfl rfl (op_append rfl (Opd.tmp _ _ rfl) (by first | exact Opd.tmp _ _ rfl | exact Opd.nil _ _ (Opd.tmp _ _ rfl)) rfl (by first | rfl | simp) rfl rfl tB tB) tE ?_
        first | refine Run.pure (dd := some 3) rfl rfl (op_assign rfl (Opd.tmp _ _ rfl)) ?_ | refine Run.pure (dd := some 3) rfl rfl (op_junk (.inr rfl)) ?_
        refine Run.nil (FinD.mk (by kernel_rfl) ?_)
        refine nK ?_
        refine s_reg rfl ?_
        refine Run.pure (dd := some 24) rfl rfl (op_add rfl (Opd.tmp _ _ rfl) (Opd.const _) tI) ?_
        first | refine Run.pure (dd := some 8) rfl rfl (op_move rfl (Opd.tmp _ _ rfl)) ?_ | refine Run.pure (dd := some 8) rfl rfl (op_junk (.inl rfl)) ?_
        refine Run.nil (FinR.mk ?_)
        refine nK ?_
        refine Next.weakS [3] [] (by rfl) (by first | exact keeps0 hC _ | exact keepsN hC _ rfl) (by repeat (first | exact trivial | refine ⟨⟨_, rfl, .inl ⟨rfl, rfl⟩⟩, ?_⟩ | refine ⟨⟨_, rfl, .inl ⟨slEq rfl tN, rfl⟩⟩, ?_⟩ | refine ⟨⟨_, rfl, .inl ⟨ivEq tX, rfl⟩⟩, ?_⟩)) (by repeat (first | exact trivial | refine ⟨⟨rfl, rfl, rfl, tL⟩, ?_⟩ | refine ⟨⟨rfl, rfl, rfEq rfl tU, tL⟩, ?_⟩ | refine ⟨⟨rfl, rfl, flEq rfl (by first | (simp; done) | (simp; omega) | (simp [encP]; done) | simp [maxC, minC]), trivial⟩, ?_⟩)) rfl (hK1)
      · have hb2 : ¬ validB l[i] = true := by simp [hb]
        rw [if_neg hb2, List.append_nil] at hs
        have hK1 := hK (i + 1) (by omega) (by omega)
        rw [hs] at hK1
        refine nK ?_
        refine s_reg rfl ?_
        refine Run.pure (dd := some 24) rfl rfl (op_add rfl (Opd.tmp _ _ rfl) (Opd.const _) tI) ?_
        first | refine Run.pure (dd := some 8) rfl rfl (op_move rfl (Opd.tmp _ _ rfl)) ?_ | refine Run.pure (dd := some 8) rfl rfl (op_junk (.inl rfl)) ?_
        refine Run.nil (FinR.mk ?_)
        refine nK ?_
        refine Next.weakS [3] [] (by rfl) (by first | exact keeps0 hC _ | exact keepsN hC _ rfl) (by repeat (first | exact trivial | refine ⟨⟨_, rfl, .inl ⟨rfl, rfl⟩⟩, ?_⟩ | refine ⟨⟨_, rfl, .inl ⟨slEq rfl tN, rfl⟩⟩, ?_⟩ | refine ⟨⟨_, rfl, .inl ⟨ivEq tX, rfl⟩⟩, ?_⟩)) (by repeat (first | exact trivial | refine ⟨⟨rfl, rfl, rfl, tL⟩, ?_⟩ | refine ⟨⟨rfl, rfl, rfEq rfl tU, tL⟩, ?_⟩ | refine ⟨⟨rfl, rfl, flEq rfl (by first | (simp; done) | (simp; omega) | (simp [encP]; done) | simp [maxC, minC]), trivial⟩, ?_⟩)) rfl (hK1)
    · have hie : i = l.length := by simp at hb; omega
      have e : runsUp l i = runsOf l := by rw [hie]; unfold runsUp; rw [List.take_length]
      rw [e]
      have hro := runsOf_ok hl
      have hrl : (runsOf l).length ≤ 1000000 := by rw [← e]; have := runs_le l i; omega
      have hmc := cmerged_c (runsOf l) hro hrl
      refine nK ?_
      refine s_reg rfl ?_
      first | refine Run.pure (dd := some 25) rfl rfl (op_move rfl (Opd.tmp _ _ rfl)) ?_ | refine Run.pure (dd := some 25) rfl rfl (op_junk (.inl rfl)) ?_
      refine Run.eff (dd := some 26) rfl rfl (op_call (n := 1) (n' := 2) [0] (fun _ => hmc) rfl (Opd.func _) (Opds.cons _ _ _ _ (Opd.tmp _ _ rfl) Opds.nil) rfl rfl (Lent.of rfl rfl (by repeat (first | exact trivial | refine ⟨⟨rfl, rfl, rfl, tL⟩, ?_⟩)) rfl) rfl rfl rfl rfl rfl) ?_
      first | refine Run.pure (dd := some 2) rfl rfl (op_assign rfl (Opd.tmp _ _ rfl)) ?_ | refine Run.pure (dd := some 2) rfl rfl (op_junk (.inr rfl)) ?_
      refine Run.nil (FinR.mk ?_)
      refine nK ?_
      (first | exact s_o1 hC rfl tV | exact s_o2 hC rfl tV tV | exact s_o3 hC rfl tV tV tV | exact s_out0 hC rfl | exact s_outO hC rfl rfl rfl)
end Go.Proofs.Ytdebjffddkgfbaa
/- Plain facts on the summary of runs, as the program comes to it. -/
namespace Go.Pl
open Go.RT
def upB (lo k : Nat) : Pfx := blk (lo / 2 ^ k * 2 ^ k) k
theorem upB_ok {lo k : Nat} (hl : lo < 2 ^ 32) (hk : k ≤ 32) : (upB lo k).ok ∧ validB (upB lo k) = true := by
  have h1 := valid_blk (a := lo / 2 ^ k * 2 ^ k) hk (Nat.dvd_mul_left _ _)
  exact ⟨⟨shr_lt hl, by unfold upB blk inr; simp only; omega⟩, h1⟩
theorem div_block {a b : Nat} (s : Nat) (hs : 0 < s) : (b / s * s ≤ a ∧ a < b / s * s + s) ↔ b / s = a / s := by
  constructor
  · intro ⟨h1, h2⟩
    have h3 : b / s ≤ a / s := (Nat.le_div_iff_mul_le hs).2 h1
    have h4 : a / s < b / s + 1 := (Nat.div_lt_iff_lt_mul hs).2 (by rw [Nat.add_mul]; omega)
    omega
  · intro h
    rw [h]
    have h1 := Nat.div_mul_le_self a s
    have h2 := Nat.lt_div_mul_add hs (a := a)
    omega
theorem upB_has {lo k a : Nat} (hl : lo < 2 ^ 32) (hk : k ≤ 32) : containsB (upB lo k) a = decide (lo / 2 ^ k = a / 2 ^ k) := by
  rw [Bool.eq_iff_iff, contains_iff, decide_eq_true_iff, ← div_block _ (Nat.two_pow_pos k)]
  have h := (upB_ok hl hk).2
  have e : sz (upB lo k) = 2 ^ k := sz_blk hk
  rw [h, e]
  simp [upB, blk]
theorem upB_parent {lo k : Nat} (hl : lo < 2 ^ 32) (hk : k < 32) : parentF (upB lo k) = .tup [.agg (encP (upB lo (k + 1))), Bf true] := by
  have h := (upB_ok hl (Nat.le_of_lt hk)).2
  unfold parentF
  rw [if_pos ⟨h, by unfold upB blk; simp only; omega⟩]
  have e : ofP (upB lo k).addr ((upB lo k).len - 1) = upB lo (k + 1) := by
    unfold ofP upB blk
    simp only
    have e1 : clampN (32 - (k : Int) - 1) = 31 - k := by unfold clampN; omega
    have e2 : keepN (lo / 2 ^ k * 2 ^ k) (31 - k) = lo / 2 ^ (k + 1) * 2 ^ (k + 1) := by
      unfold keepN
      rw [show 32 - (31 - k) = k + 1 by omega]
      have : lo / 2 ^ k * 2 ^ k / 2 ^ (k + 1) = lo / 2 ^ (k + 1) := by
        rw [Nat.pow_succ, ← Nat.div_div_eq_div_mul, Nat.mul_div_cancel _ (Nat.two_pow_pos k), Nat.div_div_eq_div_mul]
      rw [this]
    rw [e1, e2]
    congr 1
    omega
  rw [e]
theorem sumK_step {lo hi k : Nat} (hk : k < 32) (h : ¬ lo / 2 ^ k = hi / 2 ^ k) : sumK lo hi (32 - k) k = sumK lo hi (32 - (k + 1)) (k + 1) := by
  rw [show 32 - k = 32 - (k + 1) + 1 by omega]; simp only [sumK]; rw [if_neg h]
theorem sumK_end {lo hi k : Nat} (h : lo / 2 ^ k = hi / 2 ^ k) : sumK lo hi (32 - k) k = k := by
  cases h2 : 32 - k with
  | zero => rfl
  | succ f => simp only [sumK]; rw [if_pos h]
theorem sumK_top {lo hi k : Nat} (hl : lo < 2 ^ 32) (hh : hi < 2 ^ 32) (hk : k ≤ 32) (h : ¬ lo / 2 ^ k = hi / 2 ^ k) : k < 32 := by
  rcases Nat.lt_or_ge k 32 with h1 | h1
  · exact h1
  · have e : k = 32 := by omega
    rw [e, Nat.div_eq_of_lt hl, Nat.div_eq_of_lt hh] at h
    exact absurd rfl h
end Go.Pl
namespace Go.Proofs.Ytdebjffddkgfbaa
open Go Go.RT Go.Proofs Go.Pl
set_option linter.all false
set_option maxRecDepth 20000
theorem cnormal_c (l : List Pfx) (hl : okL l) (hn : l.length ≤ 1000000) : Pure Try.prog 26 [VP l] (VP (prefsF (spansOf l))) := by
  obtain ⟨a1, a2, a3, a4⟩ := spans_spec hl
  refine Meets.intro Try.func26 rfl (Nat.le_of_ble_eq_true rfl) fun C hC => ?_
  simp only [List.map, argEnv, Nat.reduceAdd]
  refine nK ?_
  refine s_reg rfl ?_
  first | refine Run.pure (dd := some 2) rfl rfl (op_assign rfl (Opd.const _)) ?_ | refine Run.pure (dd := some 2) rfl rfl (op_junk (.inr rfl)) ?_
  refine Run.nil (FinR.mk ?_)
  refine nK ?_
  refine s_reg rfl ?_
  first | refine Run.pure (dd := some 3) rfl rfl (op_move rfl (Opd.tmp _ _ rfl)) ?_ | refine Run.pure (dd := some 3) rfl rfl (op_junk (.inl rfl)) ?_
  refine Run.pure (dd := some 4) rfl rfl (op_call_pure (fun _ => Meets.freeze (by simp) (cspans_f _ (by assumption) (by omega))) rfl (Opd.func _) (Opds.cons _ _ _ _ (Opd.tmp _ _ rfl) Opds.nil)) ?_
  refine Run.pure (dd := some 5) rfl rfl (op_call_pure (fun _ => cprefs_c _ (by assumption) (by omega)) rfl (Opd.func _) (Opds.cons _ _ _ _ (Opd.tmp _ _ rfl) Opds.nil)) ?_
  first | refine Run.pure (dd := some 2) rfl rfl (op_assign rfl (Opd.tmp _ _ rfl)) ?_ | refine Run.pure (dd := some 2) rfl rfl (op_junk (.inr rfl)) ?_
  refine Run.nil (FinR.mk ?_)
  refine nK ?_
  (first | exact s_o1 hC rfl tV | exact s_o2 hC rfl tV tV | exact s_o3 hC rfl tV tV tV | exact s_out0 hC rfl | exact s_outO hC rfl rfl rfl)
theorem cis_c (l : List Pfx) (hl : okL l) (hn : l.length ≤ 1000000) : Pure Try.prog 29 [VP l] (Bf (decide (l = prefsF (spansOf l)))) := by
  obtain ⟨a1, a2, a3, a4⟩ := spans_spec hl
  have := prefs_len (spansOf l)
  refine Meets.intro Try.func29 rfl (Nat.le_of_ble_eq_true rfl) fun C hC => ?_
  simp only [List.map, argEnv, Nat.reduceAdd]
  refine nK ?_
  refine s_reg rfl ?_
  first | refine Run.pure (dd := some 2) rfl rfl (op_assign rfl (Opd.const _)) ?_ | refine Run.pure (dd := some 2) rfl rfl (op_junk (.inr rfl)) ?_
  refine Run.nil (FinR.mk ?_)
  refine nK ?_
  refine s_reg rfl ?_
  first | refine Run.pure (dd := some 3) rfl rfl (op_move rfl (Opd.tmp _ _ rfl)) ?_ | refine Run.pure (dd := some 3) rfl rfl (op_junk (.inl rfl)) ?_
  first | refine Run.pure (dd := some 4) rfl rfl (op_move rfl (Opd.tmp _ _ rfl)) ?_ | refine Run.pure (dd := some 4) rfl rfl (op_junk (.inl rfl)) ?_
  refine Run.pure (dd := some 5) rfl rfl (op_call_pure (fun _ => cnormal_c _ (by assumption) (by omega)) rfl (Opd.func _) (Opds.cons _ _ _ _ (Opd.tmp _ _ rfl) Opds.nil)) ?_
  refine Run.pure (dd := some 6) rfl rfl (op_call_pure (fun _ => equal_c _ _ (by omega) (by omega)) rfl (Opd.func _) (Opds.cons _ _ _ _ (Opd.tmp _ _ rfl) (Opds.cons _ _ _ _ (Opd.tmp _ _ rfl) Opds.nil))) ?_
  first | refine Run.pure (dd := some 2) rfl rfl (op_assign rfl (Opd.tmp _ _ rfl)) ?_ | refine Run.pure (dd := some 2) rfl rfl (op_junk (.inr rfl)) ?_
  refine Run.nil (FinR.mk ?_)
  refine nK ?_
  (first | exact s_o1 hC rfl tV | exact s_o2 hC rfl tV tV | exact s_o3 hC rfl tV tV tV | exact s_out0 hC rfl | exact s_outO hC rfl rfl rfl)
theorem ccount_c (l : List Pfx) (hl : okL l) (hn : l.length ≤ 1000000) : Pure Try.prog 31 [VP l] (If .u64 (cntS (spansOf l))) := by
  obtain ⟨a1, a2, a3, a4⟩ := spans_spec hl
  refine Meets.intro Try.func31 rfl (Nat.le_of_ble_eq_true rfl) fun C hC => ?_
  simp only [List.map, argEnv, Nat.reduceAdd]
  refine nK ?_
  refine s_reg rfl ?_
  first | refine Run.pure (dd := some 2) rfl rfl (op_assign rfl (Opd.const _)) ?_ | refine Run.pure (dd := some 2) rfl rfl (op_junk (.inr rfl)) ?_
  refine Run.nil (FinR.mk ?_)
  refine nK ?_
  refine s_reg rfl ?_
  first | refine Run.pure (dd := some 3) rfl rfl (op_assign rfl (Opd.const _)) ?_ | refine Run.pure (dd := some 3) rfl rfl (op_junk (.inr rfl)) ?_
  refine Run.nil (FinR.mk ?_)
  refine nK ?_
  refine s_reg rfl ?_
  first | refine Run.pure (dd := some 6) rfl rfl (op_move rfl (Opd.tmp _ _ rfl)) ?_ | refine Run.pure (dd := some 6) rfl rfl (op_junk (.inl rfl)) ?_
  refine Run.pure (dd := some 7) rfl rfl (op_call_pure (fun _ => Meets.freeze (by simp) (cspans_f _ (by assumption) (by omega))) rfl (Opd.func _) (Opds.cons _ _ _ _ (Opd.tmp _ _ rfl) Opds.nil)) ?_
  first | refine Run.pure (dd := some 8) rfl rfl (op_len_fz rfl (by first | exact Opd.tmp _ _ rfl | exact Opd.nil _ _ (Opd.tmp _ _ rfl)) (by first | exact List.length_map _ | rfl)) ?_ | refine Run.pure (dd := some 8) rfl rfl (op_len_sl rfl (Opd.tmp _ _ rfl)) ?_
  first | refine Run.pure (dd := some 9) rfl rfl (op_move rfl (Opd.const _)) ?_ | refine Run.pure (dd := some 9) rfl rfl (op_junk (.inl rfl)) ?_
  refine Run.nil (FinR.mk ?_)
  refine nK ?_
  generalize spansOf l = s at *
  refine n_loop (ι := Nat) (fun i => ([(3, IV .u64 (cntS (s.take i))), (7, .fz (VC s)), (8, IV .i64 s.length), (9, IV .i64 i)], [], 0)) (fun i => i ≤ s.length) (fun i => s.length - i) 0 (Nat.zero_le _) ?_ ?_
  · refine Next.weak [] [] (by rfl) (keeps0 hC _) (by repeat (first | exact trivial | refine ⟨⟨_, rfl, .inl ⟨rfl, rfl⟩⟩, ?_⟩)) (by repeat (first | exact trivial | refine ⟨⟨rfl, rfl, rfl, tL⟩, ?_⟩)) (fun _ h => by simp at h) rel_intro
  · intro i hi K hK
    have hcl := cnt_le (okS_take a2 i)
    have htl : (s.take i).length ≤ 1000000 := by simp; omega
    refine nK ?_
    refine s_reg rfl ?_
    refine Run.pure (dd := some 10) rfl rfl (op_lss rfl (Opd.tmp _ _ rfl) (Opd.tmp _ _ rfl)) ?_
    refine Run.nil (FinR.mk ?_)
    refine nK ?_
    refine n_cond _ rfl (fun hb => ?_) (fun hb => ?_)
    · have hlt : i < s.length := by simp at hb; omega
      have hr1 := row_at encC s i hlt
      have hs := cnt_succ s i hlt
      have hok := a2 s[i] (List.getElem_mem hlt)
      have hK1 := hK (i + 1) (by omega) (by omega)
      rw [hs] at hK1
      generalize s[i] = r at *
      generalize cntS (s.take i) = c at *
      refine nK ?_
      refine s_reg rfl ?_
      first | refine Run.pure (dd := some 11) rfl rfl (op_idx_sl0 _ rfl (Opd.tmp _ _ rfl) (Opd.tmp _ _ rfl) tD) ?_ | refine Run.pure (dd := some 11) rfl rfl (op_idx_fz _ rfl (Opd.tmp _ _ rfl) (Opd.tmp _ _ rfl) tF) ?_
      first | refine Run.load (dd := some 12) rfl rfl (op_loadw_flat rfl (Opd.tmp _ _ rfl) tH rfl) ?_ | refine Run.pure (dd := some 12) rfl rfl (op_loadw_fz rfl (Opd.tmp _ _ rfl) rfl) ?_ | refine Run.load (dd := some 12) rfl rfl (op_loadn_flat rfl (Opd.tmp _ _ rfl) tH tR tR) ?_ | refine Run.pure (dd := some 12) rfl rfl (op_loadn_fz rfl (Opd.tmp _ _ rfl) tR) ?_ | refine Run.load (dd := some 12) rfl rfl (op_loadn_refs rfl (Opd.tmp _ _ rfl) tH tR tR) ?_
      refine Run.eff (dd := some 5) rfl rfl (op_alloc rfl rfl rfl rfl) ?_
      first | refine Run.eff (dd := none) rfl rfl (op_store_flat rfl (Opd.tmp _ _ rfl) (Opd.tmp _ _ rfl) tC rfl rfl (by first | rfl | assumption) tS) ?_ | refine Run.eff (dd := none) rfl rfl (op_store_refs rfl (Opd.tmp _ _ rfl) (Opd.tmp _ _ rfl) tP rfl rfl rfl tS) ?_
      refine Run.nil (FinR.mk ?_)
      refine nK ?_
      refine s_reg rfl ?_
      first | refine Run.pure (dd := some 13) rfl rfl (op_move rfl (Opd.tmp _ _ rfl)) ?_ | refine Run.pure (dd := some 13) rfl rfl (op_junk (.inl rfl)) ?_
      first | refine Run.pure (dd := some 14) rfl rfl (op_fld_ptr (by decide) rfl (Opd.tmp _ _ rfl)) ?_ | refine Run.pure (dd := some 14) rfl rfl (op_fld_fz (by decide) rfl (Opd.tmp _ _ rfl) tR) ?_
      first | refine Run.load (dd := some 15) rfl rfl (op_load1_flat rfl (Opd.tmp _ _ rfl) tH rfl) ?_ | refine Run.pure (dd := some 15) rfl rfl (op_load1_fz rfl (Opd.tmp _ _ rfl) rfl) ?_ | refine Run.load (dd := some 15) rfl rfl (op_load1_refs rfl (Opd.tmp _ _ rfl) tH rfl) ?_
      first | refine Run.pure (dd := some 16) rfl rfl (op_fld_ptr (by decide) rfl (Opd.tmp _ _ rfl)) ?_ | refine Run.pure (dd := some 16) rfl rfl (op_fld_fz (by decide) rfl (Opd.tmp _ _ rfl) tR) ?_
      first | refine Run.load (dd := some 17) rfl rfl (op_load1_flat rfl (Opd.tmp _ _ rfl) tH rfl) ?_ | refine Run.pure (dd := some 17) rfl rfl (op_load1_fz rfl (Opd.tmp _ _ rfl) rfl) ?_ | refine Run.load (dd := some 17) rfl rfl (op_load1_refs rfl (Opd.tmp _ _ rfl) tH rfl) ?_
      refine Run.pure (dd := some 18) rfl rfl (op_sub rfl (Opd.tmp _ _ rfl) (Opd.tmp _ _ rfl) tI) ?_
      refine Run.pure (dd := some 19) rfl rfl (op_add rfl (Opd.tmp _ _ rfl) (Opd.const _) tI) ?_
      refine Run.pure (dd := some 20) rfl rfl (op_add rfl (Opd.tmp _ _ rfl) (Opd.tmp _ _ rfl) tI) ?_
      first | refine Run.pure (dd := some 3) rfl rfl (op_assign rfl (Opd.tmp _ _ rfl)) ?_ | refine Run.pure (dd := some 3) rfl rfl (op_junk (.inr rfl)) ?_
      refine Run.nil (FinR.mk ?_)
      refine nK ?_
      refine s_reg rfl ?_
      refine Run.pure (dd := some 21) rfl rfl (op_add rfl (Opd.tmp _ _ rfl) (Opd.const _) tI) ?_
      first | refine Run.pure (dd := some 9) rfl rfl (op_move rfl (Opd.tmp _ _ rfl)) ?_ | refine Run.pure (dd := some 9) rfl rfl (op_junk (.inl rfl)) ?_
      refine Run.nil (FinR.mk ?_)
      refine nK ?_
      have e : (c : Int) + (((r.hi - 1 : Nat) : Int) - (r.lo : Int) + 1) = ((c + (r.hi - r.lo) : Nat) : Int) := by omega
      rw [e]
      refine Next.weak [] [] (by rfl) (keeps0 hC _) (by repeat (first | exact trivial | refine ⟨⟨_, rfl, .inl ⟨rfl, rfl⟩⟩, ?_⟩)) (by repeat (first | exact trivial | refine ⟨⟨rfl, rfl, rfl, tL⟩, ?_⟩)) (fun _ h => by simp at h) hK1
    · have hie : i = s.length := by simp at hb; omega
      rw [take_len_eq hie]
      refine nK ?_
      refine s_reg rfl ?_
      first | refine Run.pure (dd := some 22) rfl rfl (op_move rfl (Opd.tmp _ _ rfl)) ?_ | refine Run.pure (dd := some 22) rfl rfl (op_junk (.inl rfl)) ?_
      first | refine Run.pure (dd := some 2) rfl rfl (op_assign rfl (Opd.tmp _ _ rfl)) ?_ | refine Run.pure (dd := some 2) rfl rfl (op_junk (.inr rfl)) ?_
      refine Run.nil (FinR.mk ?_)
      refine nK ?_
      (first | exact s_o1 hC rfl tV | exact s_o2 hC rfl tV tV | exact s_o3 hC rfl tV tV tV | exact s_out0 hC rfl | exact s_outO hC rfl rfl rfl)
theorem crange_c (a b : Nat) (ha : a < 2 ^ 32) (hb0 : b < 2 ^ 32) : Pure Try.prog 9 [If .u32 a, If .u32 b] (rangeF a b) := by
  refine Meets.intro Try.func9 rfl (Nat.le_of_ble_eq_true rfl) fun C hC => ?_
  simp only [List.map, argEnv, Nat.reduceAdd]
  refine nK ?_
  refine s_reg rfl ?_
  first | refine Run.pure (dd := some 4) rfl rfl (op_assign rfl (Opd.const _)) ?_ | refine Run.pure (dd := some 4) rfl rfl (op_junk (.inr rfl)) ?_
  first | refine Run.pure (dd := some 5) rfl rfl (op_assign rfl (Opd.const _)) ?_ | refine Run.pure (dd := some 5) rfl rfl (op_junk (.inr rfl)) ?_
  refine Run.nil (FinR.mk ?_)
  refine nK ?_
  refine s_reg rfl ?_
  first | refine Run.pure (dd := some 6) rfl rfl (op_move rfl (Opd.tmp _ _ rfl)) ?_ | refine Run.pure (dd := some 6) rfl rfl (op_junk (.inl rfl)) ?_
  first | refine Run.pure (dd := some 7) rfl rfl (op_move rfl (Opd.tmp _ _ rfl)) ?_ | refine Run.pure (dd := some 7) rfl rfl (op_junk (.inl rfl)) ?_
  refine Run.pure (dd := some 8) rfl rfl (op_gtr rfl (Opd.tmp _ _ rfl) (Opd.tmp _ _ rfl)) ?_
  refine Run.nil (FinR.mk ?_)
  refine nK ?_
  refine n_cond _ rfl (fun hb => ?_) (fun hb => ?_)
  · have : ¬ a ≤ b := by simp at hb; omega
    unfold rangeF; rw [if_neg this]
    refine nK ?_
    refine s_reg rfl ?_
    first | refine Run.pure (dd := some 4) rfl rfl (op_assign rfl (Opd.const _)) ?_ | refine Run.pure (dd := some 4) rfl rfl (op_junk (.inr rfl)) ?_
    first | refine Run.pure (dd := some 5) rfl rfl (op_assign rfl (Opd.const _)) ?_ | refine Run.pure (dd := some 5) rfl rfl (op_junk (.inr rfl)) ?_
    refine Run.nil (FinR.mk ?_)
    refine nK ?_
    refine Next.adopt 4 2 rfl ?_
    refine Next.weakS [] [4] (by rfl) (keeps0 hC _) (G' := [(4, .fz (VP [])), (5, IV .i64 16)]) (H' := []) (by repeat (first | exact trivial | refine ⟨⟨_, rfl, .inl ⟨rfl, rfl⟩⟩, ?_⟩ | refine ⟨⟨_, rfl, .inl ⟨slEq rfl tN, rfl⟩⟩, ?_⟩ | refine ⟨⟨_, rfl, .inl ⟨ivEq tX, rfl⟩⟩, ?_⟩ | refine ⟨⟨_, rfl, .inr ⟨_, rfl, .sl _ _ 0 _ _ _ rfl rfl (take0 (by first | rfl | (simp; done) | (simp; omega)) (by simp)) (by simp)⟩⟩, ?_⟩)) trivial rfl ?_
    (first | exact s_o1 hC rfl tV | exact s_o2 hC rfl tV tV | exact s_o3 hC rfl tV tV tV | exact s_out0 hC rfl | exact s_outO hC rfl rfl rfl)
  · have : a ≤ b := by simp at hb; omega
    unfold rangeF; rw [if_pos this]
    have hok : okS [⟨a, b + 1⟩] := fun s hs => by simp at hs; subst hs; exact ⟨by simp only; omega, by simp only; omega⟩
    refine nK ?_
    refine s_reg rfl ?_
    first | refine Run.pure (dd := some 9) rfl rfl (op_move rfl (Opd.tmp _ _ rfl)) ?_ | refine Run.pure (dd := some 9) rfl rfl (op_junk (.inl rfl)) ?_
    refine Run.pure (dd := some 10) rfl rfl (op_conv rfl (Opd.tmp _ _ rfl) tI) ?_
    first | refine Run.pure (dd := some 11) rfl rfl (op_move rfl (Opd.tmp _ _ rfl)) ?_ | refine Run.pure (dd := some 11) rfl rfl (op_junk (.inl rfl)) ?_
    refine Run.pure (dd := some 12) rfl rfl (op_conv rfl (Opd.tmp _ _ rfl) tI) ?_
    first | refine Run.pure (dd := some 13) rfl rfl (op_build rfl rfl rfl (FillF.cons _ _ _ _ _ _ _ _ _ _ (by rfl) (Opd.tmp _ _ rfl) tC (by rfl) tR (FillF.cons _ _ _ _ _ _ _ _ _ _ (by rfl) (Opd.tmp _ _ rfl) tC (by rfl) tR (FillF.nil _)))) ?_ | refine Run.pure (dd := some 13) rfl rfl (op_buildP rfl rfl rfl rfl (FillP.cons _ _ _ _ _ _ _ _ _ _ (by rfl) (Opd.tmp _ _ rfl) tP (by rfl) tR (FillP.cons _ _ _ _ _ _ _ _ _ _ (by rfl) (Opd.tmp _ _ rfl) tP (by rfl) tR (FillP.nil _)))) ?_
    refine Run.pure (dd := some 14) rfl rfl (op_buildSlice_fz rfl (RowsF.cons _ _ _ _ _ _ (Opd.tmp _ _ rfl) tC (by rfl) (RowsF.nil _)) rfl rfl) ?_
    refine Run.pure (dd := some 15) rfl rfl (op_call_pure (fun _ => cprefs_c [⟨a, b + 1⟩] hok (by simp)) rfl (Opd.func _) (Opds.cons _ _ _ _ (Opd.tmp _ _ rfl) Opds.nil)) ?_
    first | refine Run.pure (dd := some 4) rfl rfl (op_assign rfl (Opd.tmp _ _ rfl)) ?_ | refine Run.pure (dd := some 4) rfl rfl (op_junk (.inr rfl)) ?_
    first | refine Run.pure (dd := some 5) rfl rfl (op_assign rfl (Opd.const _)) ?_ | refine Run.pure (dd := some 5) rfl rfl (op_junk (.inr rfl)) ?_
    refine Run.nil (FinR.mk ?_)
    refine nK ?_
    (first | exact s_o1 hC rfl tV | exact s_o2 hC rfl tV tV | exact s_o3 hC rfl tV tV tV | exact s_out0 hC rfl | exact s_outO hC rfl rfl rfl)
theorem csum_c (l : List Pfx) (hl : okL l) (hn : l.length ≤ 1000000) : Pure Try.prog 14 [VP l] (sumFV (spansOf l)) := by
  obtain ⟨a1, a2, a3, a4⟩ := spans_spec hl
  refine Meets.intro Try.func14 rfl (Nat.le_of_ble_eq_true rfl) fun C hC => ?_
  simp only [List.map, argEnv, Nat.reduceAdd]
  refine nK ?_
  refine s_reg rfl ?_
  refine Run.eff (dd := some 2) rfl rfl (op_alloc rfl rfl rfl rfl) ?_
  first | refine Run.pure (dd := some 3) rfl rfl (op_assign rfl (Opd.const _)) ?_ | refine Run.pure (dd := some 3) rfl rfl (op_junk (.inr rfl)) ?_
  refine Run.nil (FinR.mk ?_)
  refine nK ?_
  refine s_reg rfl ?_
  first | refine Run.pure (dd := some 8) rfl rfl (op_move rfl (Opd.tmp _ _ rfl)) ?_ | refine Run.pure (dd := some 8) rfl rfl (op_junk (.inl rfl)) ?_
  refine Run.pure (dd := some 9) rfl rfl (op_call_pure (fun _ => Meets.freeze (by simp) (cspans_f _ (by assumption) (by omega))) rfl (Opd.func _) (Opds.cons _ _ _ _ (Opd.tmp _ _ rfl) Opds.nil)) ?_
  first | refine Run.pure (dd := some 4) rfl rfl (op_assign rfl (Opd.tmp _ _ rfl)) ?_ | refine Run.pure (dd := some 4) rfl rfl (op_junk (.inr rfl)) ?_
  refine Run.nil (FinR.mk ?_)
  refine nK ?_
  refine s_reg rfl ?_
  first | refine Run.pure (dd := some 10) rfl rfl (op_move rfl (Opd.tmp _ _ rfl)) ?_ | refine Run.pure (dd := some 10) rfl rfl (op_junk (.inl rfl)) ?_
  first | refine Run.pure (dd := some 11) rfl rfl (op_len_fz rfl (by first | exact Opd.tmp _ _ rfl | exact Opd.nil _ _ (Opd.tmp _ _ rfl)) (by first | exact List.length_map _ | rfl)) ?_ | refine Run.pure (dd := some 11) rfl rfl (op_len_sl rfl (Opd.tmp _ _ rfl)) ?_
  refine Run.pure (dd := some 12) rfl rfl (op_eql rfl (Opd.tmp _ _ rfl) (Opd.const _)) ?_
  refine Run.nil (FinR.mk ?_)
  refine nK ?_
  generalize spansOf l = s at *
  refine nK ?_
  refine n_cond _ rfl (fun hb => ?_) (fun hb => ?_)
  · have : s = [] := by simpa using hb
    subst this
    refine nK ?_
    refine s_reg rfl ?_
    first | refine Run.pure (dd := some 13) rfl rfl (op_build rfl rfl rfl (FillF.nil _)) ?_ | refine Run.pure (dd := some 13) rfl rfl (op_buildP rfl rfl rfl rfl (FillP.nil _)) ?_
    first | refine Run.eff (dd := none) rfl rfl (op_store_flat rfl (Opd.tmp _ _ rfl) (Opd.tmp _ _ rfl) tC rfl rfl (by first | rfl | assumption) tS) ?_ | refine Run.eff (dd := none) rfl rfl (op_store_refs rfl (Opd.tmp _ _ rfl) (Opd.tmp _ _ rfl) tP rfl rfl rfl tS) ?_
    first | refine Run.pure (dd := some 3) rfl rfl (op_assign rfl (Opd.const _)) ?_ | refine Run.pure (dd := some 3) rfl rfl (op_junk (.inr rfl)) ?_
    refine Run.nil (FinR.mk ?_)
    refine nK ?_
    (first | exact s_o1 hC rfl tV | exact s_o2 hC rfl tV tV | exact s_o3 hC rfl tV tV tV | exact s_out0 hC rfl | exact s_outO hC rfl rfl rfl)
  · cases s with
    | nil => simp at hb
    | cons a t =>
    have hlast : ((a :: t).map encC)[t.length]? = some (encC ((a :: t).getLast (by simp))) := by
      rw [List.getLast_eq_getElem]; exact row_at encC (a :: t) t.length (by simp)
    have hz := a2 ((a :: t).getLast (by simp)) (List.getLast_mem _)
    have ha := a2 a (by simp)
    unfold sumFV sumOf
    simp only
    generalize hzz : (a :: t).getLast (by simp) = z at *
    have hlen : (a :: t).length = t.length + 1 := rfl
    have hh2 : z.hi - 1 < 2 ^ 32 := by omega
    have hh3 : a.lo < 2 ^ 32 := by omega
    refine nK ?_
    refine s_draw mixed ?_
    first | refine Run.pure (dd := some 14) rfl rfl (op_move rfl (Opd.tmp _ _ rfl)) ?_ | refine Run.pure (dd := some 14) rfl rfl (op_junk (.inl rfl)) ?_
    refine Run.pure (dd := some 15) rfl rfl (op_idx_fz 0 rfl (Opd.tmp _ _ rfl) (Opd.const _) (by intro _; exact ⟨rfl, rfl⟩)) ?_
    first | refine Run.pure (dd := some 16) rfl rfl (op_fld_ptr (by decide) rfl (Opd.tmp _ _ rfl)) ?_ | refine Run.pure (dd := some 16) rfl rfl (op_fld_fz (by decide) rfl (Opd.tmp _ _ rfl) tR) ?_
    first | refine Run.load (dd := some 17) rfl rfl (op_load1_flat rfl (Opd.tmp _ _ rfl) tH rfl) ?_ | refine Run.pure (dd := some 17) rfl rfl (op_load1_fz rfl (Opd.tmp _ _ rfl) rfl) ?_ | refine Run.load (dd := some 17) rfl rfl (op_load1_refs rfl (Opd.tmp _ _ rfl) tH rfl) ?_
    refine Run.pure (dd := some 18) rfl rfl (op_conv rfl (Opd.tmp _ _ rfl) tI) ?_
    first | refine Run.pure (dd := some 19) rfl rfl (op_move rfl (Opd.tmp _ _ rfl)) ?_ | refine Run.pure (dd := some 19) rfl rfl (op_junk (.inl rfl)) ?_
    first | refine Run.pure (dd := some 20) rfl rfl (op_move rfl (Opd.tmp _ _ rfl)) ?_ | refine Run.pure (dd := some 20) rfl rfl (op_junk (.inl rfl)) ?_
    first | refine Run.pure (dd := some 21) rfl rfl (op_len_fz rfl (by first | exact Opd.tmp _ _ rfl | exact Opd.nil _ _ (Opd.tmp _ _ rfl)) (by first | exact List.length_map _ | rfl)) ?_ | refine Run.pure (dd := some 21) rfl rfl (op_len_sl rfl (Opd.tmp _ _ rfl)) ?_
    refine Run.pure (dd := some 22) rfl rfl (op_sub rfl (Opd.tmp _ _ rfl) (Opd.const _) tI) ?_
    refine Run.pure (dd := some 23) rfl rfl (op_idx_fz t.length rfl (Opd.tmp _ _ rfl) (Opd.tmp _ _ rfl) (by intro _; exact ⟨by omega, hlast⟩)) ?_
    first | refine Run.pure (dd := some 24) rfl rfl (op_fld_ptr (by decide) rfl (Opd.tmp _ _ rfl)) ?_ | refine Run.pure (dd := some 24) rfl rfl (op_fld_fz (by decide) rfl (Opd.tmp _ _ rfl) tR) ?_
    first | refine Run.load (dd := some 25) rfl rfl (op_load1_flat rfl (Opd.tmp _ _ rfl) tH rfl) ?_ | refine Run.pure (dd := some 25) rfl rfl (op_load1_fz rfl (Opd.tmp _ _ rfl) rfl) ?_ | refine Run.load (dd := some 25) rfl rfl (op_load1_refs rfl (Opd.tmp _ _ rfl) tH rfl) ?_
    refine Run.pure (dd := some 26) rfl rfl (op_conv rfl (Opd.tmp _ _ rfl) tI) ?_
    first | refine Run.pure (dd := some 5) rfl rfl (op_assign rfl (Opd.tmp _ _ rfl)) ?_ | refine Run.pure (dd := some 5) rfl rfl (op_junk (.inr rfl)) ?_
    first | refine Run.pure (dd := some 6) rfl rfl (op_assign rfl (Opd.tmp _ _ rfl)) ?_ | refine Run.pure (dd := some 6) rfl rfl (op_junk (.inr rfl)) ?_
    refine Run.nil (FinD.mk (by kernel_rfl) ?_)
    refine nK ?_
    generalize z.hi - 1 = hi at *
    refine nK ?_
    refine s_reg rfl ?_
    first | refine Run.pure (dd := some 27) rfl rfl (op_move rfl (Opd.tmp _ _ rfl)) ?_ | refine Run.pure (dd := some 27) rfl rfl (op_junk (.inl rfl)) ?_
    first | refine Run.pure (dd := some 28) rfl rfl (op_build rfl rfl rfl (FillF.cons _ _ _ _ _ _ _ _ _ _ (by rfl) (Opd.tmp _ _ rfl) tC (by rfl) tR (FillF.cons _ _ _ _ _ _ _ _ _ _ (by rfl) (Opd.const _) tC (by rfl) tR (FillF.nil _)))) ?_ | refine Run.pure (dd := some 28) rfl rfl (op_buildP rfl rfl rfl rfl (FillP.cons _ _ _ _ _ _ _ _ _ _ (by rfl) (Opd.tmp _ _ rfl) tP (by rfl) tR (FillP.cons _ _ _ _ _ _ _ _ _ _ (by rfl) (Opd.const _) tP (by rfl) tR (FillP.nil _)))) ?_
    refine Run.eff (dd := some 7) rfl rfl (op_alloc rfl rfl rfl rfl) ?_
    first | refine Run.eff (dd := none) rfl rfl (op_store_flat rfl (Opd.tmp _ _ rfl) (Opd.tmp _ _ rfl) tC rfl rfl (by first | rfl | assumption) tS) ?_ | refine Run.eff (dd := none) rfl rfl (op_store_refs rfl (Opd.tmp _ _ rfl) (Opd.tmp _ _ rfl) tP rfl rfl rfl tS) ?_
    refine Run.nil (FinR.mk ?_)
    refine nK ?_
    refine n_loop (ι := Nat) (fun k => ([(2, .ptr 0 2 0 0), (6, IV .u32 hi), (7, .ptr 1 2 0 0)], [(0, some (.flat 2 [[If .u32 0, If .i64 0]])), (1, some (.flat 2 [encP (upB a.lo k)]))], 2)) (fun k => k ≤ 32 ∧ sumK a.lo hi (32 - k) k = sumK a.lo hi 32 0) (fun k => 32 - k) 0 ⟨Nat.zero_le _, rfl⟩ ?_ ?_
    · refine Next.weakS [2, 7] [] (by rfl) (by first | exact keeps0 hC _ | exact keepsN hC _ rfl) (by repeat (first | exact trivial | refine ⟨⟨_, rfl, .inl ⟨rfl, rfl⟩⟩, ?_⟩ | refine ⟨⟨_, rfl, .inl ⟨slEq rfl tN, rfl⟩⟩, ?_⟩ | refine ⟨⟨_, rfl, .inl ⟨ivEq tX, rfl⟩⟩, ?_⟩)) (by repeat (first | exact trivial | refine ⟨⟨rfl, rfl, rfl, tL⟩, ?_⟩ | refine ⟨⟨rfl, rfl, rfEq rfl tU, tL⟩, ?_⟩ | refine ⟨⟨rfl, rfl, flEq rfl (by first | (simp; done) | (simp; omega) | (simp [encP, upB, blk]; done) | simp [maxC, minC]), trivial⟩, ?_⟩)) rfl (rel_intro)
    · intro k ⟨hk, hs⟩ K hK
      obtain ⟨hok, hval⟩ := upB_ok (lo := a.lo) (k := k) hh3 hk
      refine nK ?_
      refine s_reg rfl ?_
      first | refine Run.load (dd := some 29) rfl rfl (op_loadw_flat rfl (Opd.tmp _ _ rfl) tH rfl) ?_ | refine Run.pure (dd := some 29) rfl rfl (op_loadw_fz rfl (Opd.tmp _ _ rfl) rfl) ?_ | refine Run.load (dd := some 29) rfl rfl (op_loadn_flat rfl (Opd.tmp _ _ rfl) tH tR tR) ?_ | refine Run.pure (dd := some 29) rfl rfl (op_loadn_fz rfl (Opd.tmp _ _ rfl) tR) ?_ | refine Run.load (dd := some 29) rfl rfl (op_loadn_refs rfl (Opd.tmp _ _ rfl) tH tR tR) ?_
      first | refine Run.pure (dd := some 30) rfl rfl (op_move rfl (Opd.tmp _ _ rfl)) ?_ | refine Run.pure (dd := some 30) rfl rfl (op_junk (.inl rfl)) ?_
      refine Run.pure (dd := some 31) rfl rfl (op_call_pure (fun _ => contains_any _ _ (by assumption) (by omega)) rfl (Opd.func _) (Opds.cons _ _ _ _ (Opd.tmp _ _ rfl) (Opds.cons _ _ _ _ (Opd.tmp _ _ rfl) Opds.nil))) ?_
      refine Run.pure (dd := some 32) rfl rfl (op_not rfl (Opd.tmp _ _ rfl)) ?_
      refine Run.nil (FinR.mk ?_)
      refine nK ?_
      refine n_cond _ rfl (fun hb => ?_) (fun hb => ?_)
      · have hne : ¬ a.lo / 2 ^ k = hi / 2 ^ k := by rw [upB_has hh3 hk] at hb; simpa using hb
        have hk2 := sumK_top hh3 hh2 hk hne
        rw [sumK_step hk2 hne] at hs
        have hpp := parent_any (upB a.lo k) hok
        rw [upB_parent hh3 hk2] at hpp
        refine nK ?_
        refine s_reg rfl ?_
        first | refine Run.load (dd := some 34) rfl rfl (op_loadw_flat rfl (Opd.tmp _ _ rfl) tH rfl) ?_ | refine Run.pure (dd := some 34) rfl rfl (op_loadw_fz rfl (Opd.tmp _ _ rfl) rfl) ?_ | refine Run.load (dd := some 34) rfl rfl (op_loadn_flat rfl (Opd.tmp _ _ rfl) tH tR tR) ?_ | refine Run.pure (dd := some 34) rfl rfl (op_loadn_fz rfl (Opd.tmp _ _ rfl) tR) ?_ | refine Run.load (dd := some 34) rfl rfl (op_loadn_refs rfl (Opd.tmp _ _ rfl) tH tR tR) ?_
        refine Run.pure (dd := some 35) rfl rfl (op_call_pure (fun _ => hpp) rfl (Opd.func _) (Opds.cons _ _ _ _ (Opd.tmp _ _ rfl) Opds.nil)) ?_
        first | refine Run.pure (dd := some 33) rfl rfl (op_move rfl (Opd.tmp _ _ rfl)) ?_ | refine Run.pure (dd := some 33) rfl rfl (op_junk (.inl rfl)) ?_
        first | refine Run.pure (dd := some 36) rfl rfl (op_extract_fz rfl (Opd.tmp _ _ rfl) rfl) ?_ | refine Run.pure (dd := some 36) rfl rfl (op_extract rfl (Opd.tmp _ _ rfl) rfl) ?_
        first | refine Run.pure (dd := some 37) rfl rfl (op_extract_fz rfl (Opd.tmp _ _ rfl) rfl) ?_ | refine Run.pure (dd := some 37) rfl rfl (op_extract rfl (Opd.tmp _ _ rfl) rfl) ?_
        first | refine Run.eff (dd := none) rfl rfl (op_store_flat rfl (Opd.tmp _ _ rfl) (Opd.tmp _ _ rfl) tC rfl rfl (by first | rfl | assumption) tS) ?_ | refine Run.eff (dd := none) rfl rfl (op_store_refs rfl (Opd.tmp _ _ rfl) (Opd.tmp _ _ rfl) tP rfl rfl rfl tS) ?_
        refine Run.nil (FinR.mk ?_)
        refine nK ?_
        refine Next.weakS [2, 7] [] (by rfl) (by first | exact keeps0 hC _ | exact keepsN hC _ rfl) (by repeat (first | exact trivial | refine ⟨⟨_, rfl, .inl ⟨rfl, rfl⟩⟩, ?_⟩ | refine ⟨⟨_, rfl, .inl ⟨slEq rfl tN, rfl⟩⟩, ?_⟩ | refine ⟨⟨_, rfl, .inl ⟨ivEq tX, rfl⟩⟩, ?_⟩)) (by repeat (first | exact trivial | refine ⟨⟨rfl, rfl, rfl, tL⟩, ?_⟩ | refine ⟨⟨rfl, rfl, rfEq rfl tU, tL⟩, ?_⟩ | refine ⟨⟨rfl, rfl, flEq rfl (by first | (simp; done) | (simp; omega) | (simp [encP, upB, blk]; done) | simp [maxC, minC]), trivial⟩, ?_⟩)) rfl (hK (k + 1) ⟨by omega, hs⟩ (by omega))
      · have heq : a.lo / 2 ^ k = hi / 2 ^ k := by rw [upB_has hh3 hk] at hb; simpa using hb
        rw [sumK_end heq] at hs
        rw [← hs]
        refine nK ?_
        refine s_reg rfl ?_
        first | refine Run.load (dd := some 38) rfl rfl (op_loadw_flat rfl (Opd.tmp _ _ rfl) tH rfl) ?_ | refine Run.pure (dd := some 38) rfl rfl (op_loadw_fz rfl (Opd.tmp _ _ rfl) rfl) ?_ | refine Run.load (dd := some 38) rfl rfl (op_loadn_flat rfl (Opd.tmp _ _ rfl) tH tR tR) ?_ | refine Run.pure (dd := some 38) rfl rfl (op_loadn_fz rfl (Opd.tmp _ _ rfl) tR) ?_ | refine Run.load (dd := some 38) rfl rfl (op_loadn_refs rfl (Opd.tmp _ _ rfl) tH tR tR) ?_
        first | refine Run.eff (dd := none) rfl rfl (op_store_flat rfl (Opd.tmp _ _ rfl) (Opd.tmp _ _ rfl) tC rfl rfl (by first | rfl | assumption) tS) ?_ | refine Run.eff (dd := none) rfl rfl (op_store_refs rfl (Opd.tmp _ _ rfl) (Opd.tmp _ _ rfl) tP rfl rfl rfl tS) ?_
        first | refine Run.pure (dd := some 3) rfl rfl (op_assign rfl (Opd.const _)) ?_ | refine Run.pure (dd := some 3) rfl rfl (op_junk (.inr rfl)) ?_
        refine Run.nil (FinR.mk ?_)
        refine nK ?_
        (first | exact s_o1 hC rfl tV | exact s_o2 hC rfl tV tV | exact s_o3 hC rfl tV tV tV | exact s_out0 hC rfl | exact s_outO hC rfl rfl rfl)
theorem cunion_c (a b : List Pfx) (ha : okL a) (hb : okL b) (hn : a.length + b.length ≤ 1000000) : Pure Try.prog 18 [VP a, VP b] (VP (prefsF (spansOf (a ++ b)))) := by
  obtain ⟨a1, a2, a3, a4⟩ := spans_spec ha
  obtain ⟨b1, b2, b3, b4⟩ := spans_spec hb
  have hab : okS (spansOf a ++ spansOf b) := fun s hs => (List.mem_append.1 hs).elim (a2 s) (b2 s)
  obtain ⟨c1, c2, c3, c4⟩ := canon_spec hab
  have hlen : (spansOf a ++ spansOf b).length = (spansOf a).length + (spansOf b).length := List.length_append
  have hmc := cmerged_c (spansOf a ++ spansOf b) hab (by omega)
  have e : canonOf (spansOf a ++ spansOf b) = spansOf (a ++ b) := by
    refine canon_eq (runsOf_ok fun p hp => (List.mem_append.1 hp).elim (ha p) (hb p)) c1 fun x => ?_
    rw [c3, memS_append, a3, b3, memS_runsOf]
    simp only [memP, List.mem_append]
    constructor
    · rintro (⟨p, h1, h2⟩ | ⟨p, h1, h2⟩)
      · exact ⟨p, .inl h1, h2⟩
      · exact ⟨p, .inr h1, h2⟩
    · rintro ⟨p, h1 | h1, h2⟩
      · exact .inl ⟨p, h1, h2⟩
      · exact .inr ⟨p, h1, h2⟩
  rw [e] at hmc c1 c2 c4
  have hmf := Meets.freezeN (by simp) hmc
  rw [hlen] at hmf
  simp only [OC, List.map_append] at hmf
  refine Meets.intro Try.func18 rfl (Nat.le_of_ble_eq_true rfl) fun C hC => ?_
  simp only [List.map, argEnv, Nat.reduceAdd]
  refine nK ?_
  refine s_reg rfl ?_
  first | refine Run.pure (dd := some 4) rfl rfl (op_assign rfl (Opd.const _)) ?_ | refine Run.pure (dd := some 4) rfl rfl (op_junk (.inr rfl)) ?_
  refine Run.nil (FinR.mk ?_)
  refine nK ?_
  refine s_reg rfl ?_
  first | refine Run.pure (dd := some 5) rfl rfl (op_move rfl (Opd.tmp _ _ rfl)) ?_ | refine Run.pure (dd := some 5) rfl rfl (op_junk (.inl rfl)) ?_
  refine Run.eff (dd := some 6) rfl rfl (op_call_fresh (fun _ => cspans_f _ (by assumption) (by omega)) rfl (Opd.func _) (Opds.cons _ _ _ _ (Opd.tmp _ _ rfl) Opds.nil)) ?_
  first | refine Run.pure (dd := some 7) rfl rfl (op_move rfl (Opd.tmp _ _ rfl)) ?_ | refine Run.pure (dd := some 7) rfl rfl (op_junk (.inl rfl)) ?_
  refine Run.eff (dd := some 8) rfl rfl (op_call_fresh (fun _ => cspans_f _ (by assumption) (by omega)) rfl (Opd.func _) (Opds.cons _ _ _ _ (Opd.tmp _ _ rfl) Opds.nil)) ?_
  first | refine Run.eff (dd := some 9) rfl rfl (op_append_own0 rfl (Opd.tmp _ _ rfl) (Opd.tmp _ _ rfl) rfl (by first | rfl | simp) rfl (by first | rfl | simp) rfl rfl tB tB) ?_ | refine Run.eff (dd := some 9) rfl rfl (op_append rfl (Opd.tmp _ _ rfl) (by first | exact Opd.tmp _ _ rfl | exact Opd.nil _ _ (Opd.tmp _ _ rfl)) rfl (by first | rfl | simp) rfl rfl tB tB) ?_
  refine Run.eff (dd := some 10) rfl rfl (op_call (n := 1) (n' := 1) [2] (fun _ => hmf) rfl (Opd.func _) (Opds.cons _ _ _ _ (Opd.tmp _ _ rfl) Opds.nil) rfl rfl (Lent.of rfl rfl (by repeat (first | exact trivial | refine ⟨⟨rfl, rfl, rfl, tL⟩, ?_⟩)) rfl) rfl rfl rfl rfl rfl) ?_
  refine Run.pure (dd := some 11) rfl rfl (op_call_pure (fun _ => cprefs_c _ (by assumption) (by omega)) rfl (Opd.func _) (Opds.cons _ _ _ _ (Opd.tmp _ _ rfl) Opds.nil)) ?_
  first | refine Run.pure (dd := some 4) rfl rfl (op_assign rfl (Opd.tmp _ _ rfl)) ?_ | refine Run.pure (dd := some 4) rfl rfl (op_junk (.inr rfl)) ?_
  refine Run.nil (FinR.mk ?_)
  refine nK ?_
  (first | exact s_o1 hC rfl tV | exact s_o2 hC rfl tV tV | exact s_o3 hC rfl tV tV tV | exact s_out0 hC rfl | exact s_outO hC rfl rfl rfl)
theorem cinter_c (a b : List Pfx) (ha : okL a) (hb : okL b) (hn : a.length ≤ 400000) (hm : b.length ≤ 400000) : Pure Try.prog 20 [VP a, VP b] (VP (prefsF (interS (spansOf a) (spansOf b)))) := by
  obtain ⟨a1, a2, a3, a4⟩ := spans_spec ha
  obtain ⟨b1, b2, b3, b4⟩ := spans_spec hb
  have hc := comS_len (spansOf a) (spansOf b)
  have e := comS_inter a1 b1 a2
  obtain ⟨c1, c2, c3, c4⟩ := canon_spec (meetS_ok (b := spansOf b) a2)
  rw [show canonOf (meetS (spansOf a) (spansOf b)) = interS (spansOf a) (spansOf b) from rfl, ← e] at c2
  rw [← e]
  refine Meets.intro Try.func20 rfl (Nat.le_of_ble_eq_true rfl) fun C hC => ?_
  simp only [List.map, argEnv, Nat.reduceAdd]
  refine nK ?_
  refine s_reg rfl ?_
  first | refine Run.pure (dd := some 4) rfl rfl (op_assign rfl (Opd.const _)) ?_ | refine Run.pure (dd := some 4) rfl rfl (op_junk (.inr rfl)) ?_
  refine Run.nil (FinR.mk ?_)
  refine nK ?_
  refine s_reg rfl ?_
  first | refine Run.pure (dd := some 5) rfl rfl (op_move rfl (Opd.tmp _ _ rfl)) ?_ | refine Run.pure (dd := some 5) rfl rfl (op_junk (.inl rfl)) ?_
  refine Run.pure (dd := some 6) rfl rfl (op_call_pure (fun _ => Meets.freeze (by simp) (cspans_f _ (by assumption) (by omega))) rfl (Opd.func _) (Opds.cons _ _ _ _ (Opd.tmp _ _ rfl) Opds.nil)) ?_
  first | refine Run.pure (dd := some 7) rfl rfl (op_move rfl (Opd.tmp _ _ rfl)) ?_ | refine Run.pure (dd := some 7) rfl rfl (op_junk (.inl rfl)) ?_
  refine Run.pure (dd := some 8) rfl rfl (op_call_pure (fun _ => Meets.freeze (by simp) (cspans_f _ (by assumption) (by omega))) rfl (Opd.func _) (Opds.cons _ _ _ _ (Opd.tmp _ _ rfl) Opds.nil)) ?_
  refine Run.pure (dd := some 9) rfl rfl (op_call_pure (fun _ => ccommon_c _ _ (by assumption) (by assumption) (by omega) (by omega)) rfl (Opd.func _) (Opds.cons _ _ _ _ (Opd.tmp _ _ rfl) (Opds.cons _ _ _ _ (Opd.tmp _ _ rfl) Opds.nil))) ?_
  refine Run.pure (dd := some 10) rfl rfl (op_call_pure (fun _ => cprefs_c _ (by assumption) (by omega)) rfl (Opd.func _) (Opds.cons _ _ _ _ (Opd.tmp _ _ rfl) Opds.nil)) ?_
  first | refine Run.pure (dd := some 4) rfl rfl (op_assign rfl (Opd.tmp _ _ rfl)) ?_ | refine Run.pure (dd := some 4) rfl rfl (op_junk (.inr rfl)) ?_
  refine Run.nil (FinR.mk ?_)
  refine nK ?_
  (first | exact s_o1 hC rfl tV | exact s_o2 hC rfl tV tV | exact s_o3 hC rfl tV tV tV | exact s_out0 hC rfl | exact s_outO hC rfl rfl rfl)
theorem csub_c (a b : List Pfx) (ha : okL a) (hb : okL b) (hn : a.length ≤ 400000) (hm : b.length ≤ 400000) : Pure Try.prog 22 [VP a, VP b] (VP (prefsF (interS (spansOf a) (compS 0 (spansOf b))))) := by
  obtain ⟨a1, a2, a3, a4⟩ := spans_spec ha
  obtain ⟨b1, b2, b3, b4⟩ := spans_spec hb
  obtain ⟨d1, d2, d3⟩ := comp_spec (spansOf b) 0 b1 b2 (Nat.zero_le _) (fun s _ => Nat.zero_le _)
  have hcl := compS_len (spansOf b) 0
  have hc := comS_len (spansOf a) (compS 0 (spansOf b))
  have e := comS_inter a1 d1 a2
  obtain ⟨c1, c2, c3, c4⟩ := canon_spec (meetS_ok (b := compS 0 (spansOf b)) a2)
  rw [show canonOf (meetS (spansOf a) (compS 0 (spansOf b))) = interS (spansOf a) (compS 0 (spansOf b)) from rfl, ← e] at c2
  rw [← e]
  refine Meets.intro Try.func22 rfl (Nat.le_of_ble_eq_true rfl) fun C hC => ?_
  simp only [List.map, argEnv, Nat.reduceAdd]
  refine nK ?_
  refine s_reg rfl ?_
  first | refine Run.pure (dd := some 4) rfl rfl (op_assign rfl (Opd.const _)) ?_ | refine Run.pure (dd := some 4) rfl rfl (op_junk (.inr rfl)) ?_
  refine Run.nil (FinR.mk ?_)
  refine nK ?_
  refine s_reg rfl ?_
  first | refine Run.pure (dd := some 5) rfl rfl (op_move rfl (Opd.tmp _ _ rfl)) ?_ | refine Run.pure (dd := some 5) rfl rfl (op_junk (.inl rfl)) ?_
  refine Run.pure (dd := some 6) rfl rfl (op_call_pure (fun _ => Meets.freeze (by simp) (cspans_f _ (by assumption) (by omega))) rfl (Opd.func _) (Opds.cons _ _ _ _ (Opd.tmp _ _ rfl) Opds.nil)) ?_
  first | refine Run.pure (dd := some 7) rfl rfl (op_move rfl (Opd.tmp _ _ rfl)) ?_ | refine Run.pure (dd := some 7) rfl rfl (op_junk (.inl rfl)) ?_
  refine Run.pure (dd := some 8) rfl rfl (op_call_pure (fun _ => Meets.freeze (by simp) (cspans_f _ (by assumption) (by omega))) rfl (Opd.func _) (Opds.cons _ _ _ _ (Opd.tmp _ _ rfl) Opds.nil)) ?_
  refine Run.pure (dd := some 9) rfl rfl (op_call_pure (fun _ => crest_c _ (by assumption) (by omega)) rfl (Opd.func _) (Opds.cons _ _ _ _ (Opd.tmp _ _ rfl) Opds.nil)) ?_
  refine Run.pure (dd := some 10) rfl rfl (op_call_pure (fun _ => ccommon_c _ _ (by assumption) (by assumption) (by omega) (by omega)) rfl (Opd.func _) (Opds.cons _ _ _ _ (Opd.tmp _ _ rfl) (Opds.cons _ _ _ _ (Opd.tmp _ _ rfl) Opds.nil))) ?_
  refine Run.pure (dd := some 11) rfl rfl (op_call_pure (fun _ => cprefs_c _ (by assumption) (by omega)) rfl (Opd.func _) (Opds.cons _ _ _ _ (Opd.tmp _ _ rfl) Opds.nil)) ?_
  first | refine Run.pure (dd := some 4) rfl rfl (op_assign rfl (Opd.tmp _ _ rfl)) ?_ | refine Run.pure (dd := some 4) rfl rfl (op_junk (.inr rfl)) ?_
  refine Run.nil (FinR.mk ?_)
  refine nK ?_
  (first | exact s_o1 hC rfl tV | exact s_o2 hC rfl tV tV | exact s_o3 hC rfl tV tV tV | exact s_out0 hC rfl | exact s_outO hC rfl rfl rfl)
end Go.Proofs.Ytdebjffddkgfbaa
/- The end of a law: a truth value that is proved to be true. Data read off the arguments. -/
namespace Go.RT
open Go
set_option linter.all false
theorem s_oB {P : Program} {C : Cx} {N : Nat} {G : Env} {H : Hp} {nx : Nat} {fn : Func} {r : Tmp} {b : Bool} (hC : C.n0 = 0) (hres : fn.results = #[.tmp r]) (h : look G r = some (BV b)) (hb : b = true) : Next C N G H nx (Out P fn C (.fz (Bf true)) [] 0 .ret) := by
  subst hb; exact s_o1 hC hres (RV.tmp _ _ h)
theorem s_oBb {P : Program} {C : Cx} {N : Nat} {G : Env} {H : Hp} {nx : Nat} {fn : Func} {r : Tmp} {b c : Bool} (hC : C.n0 = 0) (hres : fn.results = #[.tmp r]) (h : look G r = some (BV b)) (hb : b = c) : Next C N G H nx (Out P fn C (.fz (Bf c)) [] 0 .ret) := by
  subst hb; exact s_o1 hC hres (RV.tmp _ _ h)
/-- rows that read as0 a list of things -/
theorem rows_of {α : Type} {enc : α → List FV} {ok : α → Prop} {R : List FV → Prop} (h : ∀ fs, R fs → ∃ x, ok x ∧ fs = enc x) : ∀ {rows : List (List FV)}, (∀ r ∈ rows, R r) → ∃ l : List α, rows = l.map enc ∧ ∀ x ∈ l, ok x
  | [], _ => ⟨[], rfl, by simp⟩
  | r :: rs, hr => by
    obtain ⟨x, hx, rfl⟩ := h r (hr r (by simp))
    obtain ⟨l, rfl, hl⟩ := rows_of h (rows := rs) (fun r' h' => hr r' (List.mem_cons_of_mem _ h'))
    exact ⟨x :: l, by simp, fun y hy => by
      rcases List.mem_cons.1 hy with rfl | hy
      · exact hx
      · exact hl y hy⟩
end Go.RT
namespace Go.Proofs.Ytdebjffddkgfbaa
open Go Go.RT Go.Proofs Go.Pl
set_option linter.all false
set_option maxRecDepth 20000
theorem aw1 : prefsF (spansOf [⟨167772416, 24⟩, ⟨167772160, 24⟩, ⟨167772167, 32⟩]) = [⟨167772160, 23⟩] := by decide +kernel
theorem aw2 : prefsF [⟨167772161, 167772166 + 1⟩] = [⟨167772161, 32⟩, ⟨167772162, 31⟩, ⟨167772164, 31⟩, ⟨167772166, 32⟩] := by decide +kernel
theorem aw3 : sumOf (spansOf [⟨167772160, 24⟩, ⟨167772928, 24⟩]) = (⟨167772160, 22⟩, true) := by decide +kernel
theorem aw4 : (prefsF (interS (spansOf [⟨167772160, 30⟩]) (compS 0 (spansOf [⟨167772161, 32⟩])))).length = 2 := by decide +kernel
theorem okL_of {l : List Pfx} (h : (l.all fun p => decide (p.addr < 4294967296) && decide (-9223372036854775808 ≤ p.len) && decide (p.len ≤ 9223372036854775807)) = true) : okL l := fun p hp => by
  have := List.all_eq_true.1 h p hp
  simp only [Bool.and_eq_true, decide_eq_true_eq] at this
  exact ⟨this.1.1, this.1.2, this.2⟩
theorem awake_c : Pure Try.prog 11 [] (Bf true) := by
  have h1 := cnormal_c [⟨167772416, 24⟩, ⟨167772160, 24⟩, ⟨167772167, 32⟩] (okL_of (by decide)) (by decide)
  rw [aw1] at h1
  have h2 := crange_c 167772161 167772166 (by decide) (by decide)
  unfold rangeF at h2
  rw [if_pos (by decide), aw2] at h2
  have h3 := csum_c [⟨167772160, 24⟩, ⟨167772928, 24⟩] (okL_of (by decide)) (by decide)
  unfold sumFV at h3
  rw [aw3] at h3
  have h4 := csub_c [⟨167772160, 30⟩] [⟨167772161, 32⟩] (okL_of (by decide)) (okL_of (by decide)) (by decide) (by decide)
  have h5 := aw4
  generalize prefsF (interS (spansOf [⟨167772160, 30⟩]) (compS 0 (spansOf [⟨167772161, 32⟩]))) = d at *
  have k1 := same_any [⟨167772160, 23⟩] [⟨167772160, 23⟩] (by decide) (by decide)
  have k2 := same_any [⟨167772161, 32⟩, ⟨167772162, 31⟩, ⟨167772164, 31⟩, ⟨167772166, 32⟩] [⟨167772161, 32⟩, ⟨167772162, 31⟩, ⟨167772164, 31⟩, ⟨167772166, 32⟩] (by decide) (by decide)
  rw [decide_eq_true rfl] at k1 k2
  refine Meets.intro Try.func11 rfl (Nat.le_of_ble_eq_true rfl) fun C hC => ?_
  simp only [List.map, argEnv, Nat.reduceAdd]
  refine nK ?_
  refine s_reg rfl ?_
  first | refine Run.pure (dd := some 0) rfl rfl (op_assign rfl (Opd.const _)) ?_ | refine Run.pure (dd := some 0) rfl rfl (op_junk (.inr rfl)) ?_
  refine Run.nil (FinR.mk ?_)
  refine nK ?_
  refine s_reg rfl ?_
  first | refine Run.pure (dd := some 7) rfl rfl (op_build rfl rfl rfl (FillF.cons _ _ _ _ _ _ _ _ _ _ (by rfl) (Opd.const _) tC (by rfl) tR (FillF.cons _ _ _ _ _ _ _ _ _ _ (by rfl) (Opd.const _) tC (by rfl) tR (FillF.nil _)))) ?_ | refine Run.pure (dd := some 7) rfl rfl (op_buildP rfl rfl rfl rfl (FillP.cons _ _ _ _ _ _ _ _ _ _ (by rfl) (Opd.const _) tP (by rfl) tR (FillP.cons _ _ _ _ _ _ _ _ _ _ (by rfl) (Opd.const _) tP (by rfl) tR (FillP.nil _)))) ?_
  first | refine Run.pure (dd := some 8) rfl rfl (op_build rfl rfl rfl (FillF.cons _ _ _ _ _ _ _ _ _ _ (by rfl) (Opd.const _) tC (by rfl) tR (FillF.cons _ _ _ _ _ _ _ _ _ _ (by rfl) (Opd.const _) tC (by rfl) tR (FillF.nil _)))) ?_ | refine Run.pure (dd := some 8) rfl rfl (op_buildP rfl rfl rfl rfl (FillP.cons _ _ _ _ _ _ _ _ _ _ (by rfl) (Opd.const _) tP (by rfl) tR (FillP.cons _ _ _ _ _ _ _ _ _ _ (by rfl) (Opd.const _) tP (by rfl) tR (FillP.nil _)))) ?_
  first | refine Run.pure (dd := some 9) rfl rfl (op_build rfl rfl rfl (FillF.cons _ _ _ _ _ _ _ _ _ _ (by rfl) (Opd.const _) tC (by rfl) tR (FillF.cons _ _ _ _ _ _ _ _ _ _ (by rfl) (Opd.const _) tC (by rfl) tR (FillF.nil _)))) ?_ | refine Run.pure (dd := some 9) rfl rfl (op_buildP rfl rfl rfl rfl (FillP.cons _ _ _ _ _ _ _ _ _ _ (by rfl) (Opd.const _) tP (by rfl) tR (FillP.cons _ _ _ _ _ _ _ _ _ _ (by rfl) (Opd.const _) tP (by rfl) tR (FillP.nil _)))) ?_
  refine Run.pure (dd := some 10) rfl rfl (op_buildSlice_fz rfl (RowsF.cons _ _ _ _ _ _ (Opd.tmp _ _ rfl) tC (by rfl) (RowsF.cons _ _ _ _ _ _ (Opd.tmp _ _ rfl) tC (by rfl) (RowsF.cons _ _ _ _ _ _ (Opd.tmp _ _ rfl) tC (by rfl) (RowsF.nil _)))) rfl rfl) ?_
  refine Run.pure (dd := some 11) rfl rfl (op_call_pure (fun _ => h1) rfl (Opd.func _) (Opds.cons _ _ _ _ (Opd.tmp _ _ rfl) Opds.nil)) ?_
  first | refine Run.pure (dd := some 1) rfl rfl (op_assign rfl (Opd.tmp _ _ rfl)) ?_ | refine Run.pure (dd := some 1) rfl rfl (op_junk (.inr rfl)) ?_
  refine Run.nil (FinR.mk ?_)
  refine nK ?_
  refine s_reg rfl ?_
  refine Run.pure (dd := some 13) rfl rfl (op_call_pure (fun _ => h2) rfl (Opd.func _) (Opds.cons _ _ _ _ (Opd.const _) (Opds.cons _ _ _ _ (Opd.const _) Opds.nil))) ?_
  first | refine Run.pure (dd := some 12) rfl rfl (op_move rfl (Opd.tmp _ _ rfl)) ?_ | refine Run.pure (dd := some 12) rfl rfl (op_junk (.inl rfl)) ?_
  first | refine Run.pure (dd := some 14) rfl rfl (op_extract_fz rfl (Opd.tmp _ _ rfl) rfl) ?_ | refine Run.pure (dd := some 14) rfl rfl (op_extract rfl (Opd.tmp _ _ rfl) rfl) ?_
  first | refine Run.pure (dd := some 15) rfl rfl (op_extract_fz rfl (Opd.tmp _ _ rfl) rfl) ?_ | refine Run.pure (dd := some 15) rfl rfl (op_extract rfl (Opd.tmp _ _ rfl) rfl) ?_
  first | refine Run.pure (dd := some 2) rfl rfl (op_assign rfl (Opd.tmp _ _ rfl)) ?_ | refine Run.pure (dd := some 2) rfl rfl (op_junk (.inr rfl)) ?_
  first | refine Run.pure (dd := some 3) rfl rfl (op_assign rfl (Opd.tmp _ _ rfl)) ?_ | refine Run.pure (dd := some 3) rfl rfl (op_junk (.inr rfl)) ?_
  refine Run.nil (FinR.mk ?_)
  refine nK ?_
  refine s_reg rfl ?_
  first | refine Run.pure (dd := some 17) rfl rfl (op_build rfl rfl rfl (FillF.cons _ _ _ _ _ _ _ _ _ _ (by rfl) (Opd.const _) tC (by rfl) tR (FillF.cons _ _ _ _ _ _ _ _ _ _ (by rfl) (Opd.const _) tC (by rfl) tR (FillF.nil _)))) ?_ | refine Run.pure (dd := some 17) rfl rfl (op_buildP rfl rfl rfl rfl (FillP.cons _ _ _ _ _ _ _ _ _ _ (by rfl) (Opd.const _) tP (by rfl) tR (FillP.cons _ _ _ _ _ _ _ _ _ _ (by rfl) (Opd.const _) tP (by rfl) tR (FillP.nil _)))) ?_
  first | refine Run.pure (dd := some 18) rfl rfl (op_build rfl rfl rfl (FillF.cons _ _ _ _ _ _ _ _ _ _ (by rfl) (Opd.const _) tC (by rfl) tR (FillF.cons _ _ _ _ _ _ _ _ _ _ (by rfl) (Opd.const _) tC (by rfl) tR (FillF.nil _)))) ?_ | refine Run.pure (dd := some 18) rfl rfl (op_buildP rfl rfl rfl rfl (FillP.cons _ _ _ _ _ _ _ _ _ _ (by rfl) (Opd.const _) tP (by rfl) tR (FillP.cons _ _ _ _ _ _ _ _ _ _ (by rfl) (Opd.const _) tP (by rfl) tR (FillP.nil _)))) ?_
  refine Run.pure (dd := some 19) rfl rfl (op_buildSlice_fz rfl (RowsF.cons _ _ _ _ _ _ (Opd.tmp _ _ rfl) tC (by rfl) (RowsF.cons _ _ _ _ _ _ (Opd.tmp _ _ rfl) tC (by rfl) (RowsF.nil _))) rfl rfl) ?_
  refine Run.pure (dd := some 20) rfl rfl (op_call_pure (fun _ => h3) rfl (Opd.func _) (Opds.cons _ _ _ _ (Opd.tmp _ _ rfl) Opds.nil)) ?_
  first | refine Run.pure (dd := some 16) rfl rfl (op_move rfl (Opd.tmp _ _ rfl)) ?_ | refine Run.pure (dd := some 16) rfl rfl (op_junk (.inl rfl)) ?_
  first | refine Run.pure (dd := some 21) rfl rfl (op_extract_fz rfl (Opd.tmp _ _ rfl) rfl) ?_ | refine Run.pure (dd := some 21) rfl rfl (op_extract rfl (Opd.tmp _ _ rfl) rfl) ?_
  first | refine Run.pure (dd := some 22) rfl rfl (op_extract_fz rfl (Opd.tmp _ _ rfl) rfl) ?_ | refine Run.pure (dd := some 22) rfl rfl (op_extract rfl (Opd.tmp _ _ rfl) rfl) ?_
  refine Run.eff (dd := some 4) rfl rfl (op_alloc rfl rfl rfl rfl) ?_
  first | refine Run.eff (dd := none) rfl rfl (op_store_flat rfl (Opd.tmp _ _ rfl) (Opd.tmp _ _ rfl) tC rfl rfl (by first | rfl | assumption) tS) ?_ | refine Run.eff (dd := none) rfl rfl (op_store_refs rfl (Opd.tmp _ _ rfl) (Opd.tmp _ _ rfl) tP rfl rfl rfl tS) ?_
  first | refine Run.pure (dd := some 5) rfl rfl (op_assign rfl (Opd.tmp _ _ rfl)) ?_ | refine Run.pure (dd := some 5) rfl rfl (op_junk (.inr rfl)) ?_
  refine Run.nil (FinR.mk ?_)
  refine nK ?_
  refine s_reg rfl ?_
  first | refine Run.pure (dd := some 23) rfl rfl (op_build rfl rfl rfl (FillF.cons _ _ _ _ _ _ _ _ _ _ (by rfl) (Opd.const _) tC (by rfl) tR (FillF.cons _ _ _ _ _ _ _ _ _ _ (by rfl) (Opd.const _) tC (by rfl) tR (FillF.nil _)))) ?_ | refine Run.pure (dd := some 23) rfl rfl (op_buildP rfl rfl rfl rfl (FillP.cons _ _ _ _ _ _ _ _ _ _ (by rfl) (Opd.const _) tP (by rfl) tR (FillP.cons _ _ _ _ _ _ _ _ _ _ (by rfl) (Opd.const _) tP (by rfl) tR (FillP.nil _)))) ?_
  refine Run.pure (dd := some 24) rfl rfl (op_buildSlice_fz rfl (RowsF.cons _ _ _ _ _ _ (Opd.tmp _ _ rfl) tC (by rfl) (RowsF.nil _)) rfl rfl) ?_
  first | refine Run.pure (dd := some 25) rfl rfl (op_build rfl rfl rfl (FillF.cons _ _ _ _ _ _ _ _ _ _ (by rfl) (Opd.const _) tC (by rfl) tR (FillF.cons _ _ _ _ _ _ _ _ _ _ (by rfl) (Opd.const _) tC (by rfl) tR (FillF.nil _)))) ?_ | refine Run.pure (dd := some 25) rfl rfl (op_buildP rfl rfl rfl rfl (FillP.cons _ _ _ _ _ _ _ _ _ _ (by rfl) (Opd.const _) tP (by rfl) tR (FillP.cons _ _ _ _ _ _ _ _ _ _ (by rfl) (Opd.const _) tP (by rfl) tR (FillP.nil _)))) ?_
  refine Run.pure (dd := some 26) rfl rfl (op_buildSlice_fz rfl (RowsF.cons _ _ _ _ _ _ (Opd.tmp _ _ rfl) tC (by rfl) (RowsF.nil _)) rfl rfl) ?_
  refine Run.pure (dd := some 27) rfl rfl (op_call_pure (fun _ => h4) rfl (Opd.func _) (Opds.cons _ _ _ _ (Opd.tmp _ _ rfl) (Opds.cons _ _ _ _ (Opd.tmp _ _ rfl) Opds.nil))) ?_
  first | refine Run.pure (dd := some 6) rfl rfl (op_assign rfl (Opd.tmp _ _ rfl)) ?_ | refine Run.pure (dd := some 6) rfl rfl (op_junk (.inr rfl)) ?_
  refine Run.nil (FinR.mk ?_)
  refine nK ?_
  refine s_reg rfl ?_
  first | refine Run.pure (dd := some 28) rfl rfl (op_move rfl (Opd.tmp _ _ rfl)) ?_ | refine Run.pure (dd := some 28) rfl rfl (op_junk (.inl rfl)) ?_
  first | refine Run.pure (dd := some 29) rfl rfl (op_build rfl rfl rfl (FillF.cons _ _ _ _ _ _ _ _ _ _ (by rfl) (Opd.const _) tC (by rfl) tR (FillF.cons _ _ _ _ _ _ _ _ _ _ (by rfl) (Opd.const _) tC (by rfl) tR (FillF.nil _)))) ?_ | refine Run.pure (dd := some 29) rfl rfl (op_buildP rfl rfl rfl rfl (FillP.cons _ _ _ _ _ _ _ _ _ _ (by rfl) (Opd.const _) tP (by rfl) tR (FillP.cons _ _ _ _ _ _ _ _ _ _ (by rfl) (Opd.const _) tP (by rfl) tR (FillP.nil _)))) ?_
  refine Run.pure (dd := some 30) rfl rfl (op_buildSlice_fz rfl (RowsF.cons _ _ _ _ _ _ (Opd.tmp _ _ rfl) tC (by rfl) (RowsF.nil _)) rfl rfl) ?_
  refine Run.pure (dd := some 31) rfl rfl (op_call_pure (fun _ => k1) rfl (Opd.func _) (Opds.cons _ _ _ _ (Opd.tmp _ _ rfl) (Opds.cons _ _ _ _ (Opd.tmp _ _ rfl) Opds.nil))) ?_
  first | refine Run.pure (dd := some 32) rfl rfl (op_move rfl (Opd.tmp _ _ rfl)) ?_ | refine Run.pure (dd := some 32) rfl rfl (op_junk (.inl rfl)) ?_
  first | refine Run.pureG (dd := some 33) rfl rfl rfl tG (op_move rfl (Opd.tmp _ _ rfl)) ?_ | refine Run.pureG (dd := some 33) rfl rfl rfl tG (op_junk (.inl rfl)) ?_
  refine Run.pureG (dd := some 34) rfl rfl rfl tG (op_eql rfl (Opd.topt _ _ _ rfl tO) (Opd.const _)) ?_
  refine Run.pure (dd := some 35) rfl rfl (op_pick_and rfl (Opd.tmp _ _ rfl) (Opd.topt _ _ _ rfl tO)) ?_
  first | refine Run.pure (dd := some 36) rfl rfl (op_move rfl (Opd.tmp _ _ rfl)) ?_ | refine Run.pure (dd := some 36) rfl rfl (op_junk (.inl rfl)) ?_
  first | refine Run.pureG (dd := some 37) rfl rfl rfl tG (op_move rfl (Opd.tmp _ _ rfl)) ?_ | refine Run.pureG (dd := some 37) rfl rfl rfl tG (op_junk (.inl rfl)) ?_
  first | refine Run.pureG (dd := some 38) rfl rfl rfl tG (op_build rfl rfl rfl (FillF.cons _ _ _ _ _ _ _ _ _ _ (by rfl) (Opd.const _) tC (by rfl) tR (FillF.cons _ _ _ _ _ _ _ _ _ _ (by rfl) (Opd.const _) tC (by rfl) tR (FillF.nil _)))) ?_ | refine Run.pureG (dd := some 38) rfl rfl rfl tG (op_buildP rfl rfl rfl rfl (FillP.cons _ _ _ _ _ _ _ _ _ _ (by rfl) (Opd.const _) tP (by rfl) tR (FillP.cons _ _ _ _ _ _ _ _ _ _ (by rfl) (Opd.const _) tP (by rfl) tR (FillP.nil _)))) ?_
  first | refine Run.pureG (dd := some 39) rfl rfl rfl tG (op_build rfl rfl rfl (FillF.cons _ _ _ _ _ _ _ _ _ _ (by rfl) (Opd.const _) tC (by rfl) tR (FillF.cons _ _ _ _ _ _ _ _ _ _ (by rfl) (Opd.const _) tC (by rfl) tR (FillF.nil _)))) ?_ | refine Run.pureG (dd := some 39) rfl rfl rfl tG (op_buildP rfl rfl rfl rfl (FillP.cons _ _ _ _ _ _ _ _ _ _ (by rfl) (Opd.const _) tP (by rfl) tR (FillP.cons _ _ _ _ _ _ _ _ _ _ (by rfl) (Opd.const _) tP (by rfl) tR (FillP.nil _)))) ?_
  first | refine Run.pureG (dd := some 40) rfl rfl rfl tG (op_build rfl rfl rfl (FillF.cons _ _ _ _ _ _ _ _ _ _ (by rfl) (Opd.const _) tC (by rfl) tR (FillF.cons _ _ _ _ _ _ _ _ _ _ (by rfl) (Opd.const _) tC (by rfl) tR (FillF.nil _)))) ?_ | refine Run.pureG (dd := some 40) rfl rfl rfl tG (op_buildP rfl rfl rfl rfl (FillP.cons _ _ _ _ _ _ _ _ _ _ (by rfl) (Opd.const _) tP (by rfl) tR (FillP.cons _ _ _ _ _ _ _ _ _ _ (by rfl) (Opd.const _) tP (by rfl) tR (FillP.nil _)))) ?_
  first | refine Run.pureG (dd := some 41) rfl rfl rfl tG (op_build rfl rfl rfl (FillF.cons _ _ _ _ _ _ _ _ _ _ (by rfl) (Opd.const _) tC (by rfl) tR (FillF.cons _ _ _ _ _ _ _ _ _ _ (by rfl) (Opd.const _) tC (by rfl) tR (FillF.nil _)))) ?_ | refine Run.pureG (dd := some 41) rfl rfl rfl tG (op_buildP rfl rfl rfl rfl (FillP.cons _ _ _ _ _ _ _ _ _ _ (by rfl) (Opd.const _) tP (by rfl) tR (FillP.cons _ _ _ _ _ _ _ _ _ _ (by rfl) (Opd.const _) tP (by rfl) tR (FillP.nil _)))) ?_
  refine Run.pureG (dd := some 42) rfl rfl rfl tG (op_buildSlice_fz rfl (RowsF.cons _ _ _ _ _ _ (Opd.topt _ _ _ rfl tO) tC (by rfl) (RowsF.cons _ _ _ _ _ _ (Opd.topt _ _ _ rfl tO) tC (by rfl) (RowsF.cons _ _ _ _ _ _ (Opd.topt _ _ _ rfl tO) tC (by rfl) (RowsF.cons _ _ _ _ _ _ (Opd.topt _ _ _ rfl tO) tC (by rfl) (RowsF.nil _))))) rfl rfl) ?_
  refine Run.pureG (dd := some 43) rfl rfl rfl tG (op_call_pure (fun _ => k2) rfl (Opd.func _) (Opds.cons _ _ _ _ (Opd.topt _ _ _ rfl tO) (Opds.cons _ _ _ _ (Opd.topt _ _ _ rfl tO) Opds.nil))) ?_
  refine Run.pure (dd := some 44) rfl rfl (op_pick_and rfl (Opd.tmp _ _ rfl) (Opd.topt _ _ _ rfl tO)) ?_
  first | refine Run.pure (dd := some 45) rfl rfl (op_move rfl (Opd.tmp _ _ rfl)) ?_ | refine Run.pure (dd := some 45) rfl rfl (op_junk (.inl rfl)) ?_
  first | refine Run.pureG (dd := some 46) rfl rfl rfl tG (op_move rfl (Opd.tmp _ _ rfl)) ?_ | refine Run.pureG (dd := some 46) rfl rfl rfl tG (op_junk (.inl rfl)) ?_
  refine Run.pure (dd := some 47) rfl rfl (op_pick_and rfl (Opd.tmp _ _ rfl) (Opd.topt _ _ _ rfl tO)) ?_
  first | refine Run.pure (dd := some 48) rfl rfl (op_move rfl (Opd.tmp _ _ rfl)) ?_ | refine Run.pure (dd := some 48) rfl rfl (op_junk (.inl rfl)) ?_
  first | refine Run.loadG (dd := some 49) rfl rfl rfl tG (op_loadw_flat rfl (Opd.tmp _ _ rfl) tH rfl) ?_ | refine Run.pureG (dd := some 49) rfl rfl rfl tG (op_loadw_fz rfl (Opd.tmp _ _ rfl) rfl) ?_ | refine Run.loadG (dd := some 49) rfl rfl rfl tG (op_loadn_flat rfl (Opd.tmp _ _ rfl) tH tR tR) ?_ | refine Run.pureG (dd := some 49) rfl rfl rfl tG (op_loadn_fz rfl (Opd.tmp _ _ rfl) tR) ?_ | refine Run.loadG (dd := some 49) rfl rfl rfl tG (op_loadn_refs rfl (Opd.tmp _ _ rfl) tH tR tR) ?_
  first | refine Run.pureG (dd := some 50) rfl rfl rfl tG (op_build rfl rfl rfl (FillF.cons _ _ _ _ _ _ _ _ _ _ (by rfl) (Opd.const _) tC (by rfl) tR (FillF.cons _ _ _ _ _ _ _ _ _ _ (by rfl) (Opd.const _) tC (by rfl) tR (FillF.nil _)))) ?_ | refine Run.pureG (dd := some 50) rfl rfl rfl tG (op_buildP rfl rfl rfl rfl (FillP.cons _ _ _ _ _ _ _ _ _ _ (by rfl) (Opd.const _) tP (by rfl) tR (FillP.cons _ _ _ _ _ _ _ _ _ _ (by rfl) (Opd.const _) tP (by rfl) tR (FillP.nil _)))) ?_
  refine Run.pureG (dd := some 51) rfl rfl rfl tG (op_eqS rfl (Opd.topt _ _ _ rfl tO) (Opd.topt _ _ _ rfl tO) (by kernel_rfl)) ?_
  refine Run.pure (dd := some 52) rfl rfl (op_pick_and rfl (Opd.tmp _ _ rfl) (Opd.topt _ _ _ rfl tO)) ?_
  first | refine Run.pure (dd := some 53) rfl rfl (op_move rfl (Opd.tmp _ _ rfl)) ?_ | refine Run.pure (dd := some 53) rfl rfl (op_junk (.inl rfl)) ?_
  first | refine Run.pureG (dd := some 54) rfl rfl rfl tG (op_move rfl (Opd.tmp _ _ rfl)) ?_ | refine Run.pureG (dd := some 54) rfl rfl rfl tG (op_junk (.inl rfl)) ?_
  first | refine Run.pureG (dd := some 55) rfl rfl rfl tG (op_len_fz rfl (by first | exact Opd.topt _ _ _ rfl tO | exact Opd.nil _ _ (Opd.topt _ _ _ rfl tO)) (by first | exact List.length_map _ | rfl)) ?_ | refine Run.pureG (dd := some 55) rfl rfl rfl tG (op_len_sl rfl (Opd.topt _ _ _ rfl tO)) ?_
  refine Run.pureG (dd := some 56) rfl rfl rfl tG (op_eql rfl (Opd.topt _ _ _ rfl tO) (Opd.const _)) ?_
  refine Run.pure (dd := some 57) rfl rfl (op_pick_and rfl (Opd.tmp _ _ rfl) (Opd.topt _ _ _ rfl tO)) ?_
  first | refine Run.pure (dd := some 0) rfl rfl (op_assign rfl (Opd.tmp _ _ rfl)) ?_ | refine Run.pure (dd := some 0) rfl rfl (op_junk (.inr rfl)) ?_
  refine Run.nil (FinR.mk ?_)
  refine nK ?_
  refine s_oB hC rfl rfl ?_
  rw [h5]; decide
end Go.Proofs.Ytdebjffddkgfbaa
/- Plain facts: membership in lists of prefixes; numbers of addresses. -/
namespace Go.Pl
open Go.RT
theorem any_contains (l : List Pfx) (x : Nat) : l.any (containsB · x) = true ↔ memP l x := by
  rw [List.any_eq_true]
  simp only [memP]
  constructor
  · rintro ⟨p, hp, h⟩; exact ⟨p, hp, (contains_iff p x).1 h⟩
  · rintro ⟨p, hp, h⟩; exact ⟨p, hp, (contains_iff p x).2 h⟩
theorem chain_mem : ∀ {l : List Pfx} {lo hi : Nat}, chain lo l hi → (∀ p ∈ l, validB p = true) → ∀ x, memP l x ↔ lo ≤ x ∧ x < hi
  | [], lo, hi, h, _, x => by
    have : lo = hi := h
    simp only [memP, List.not_mem_nil, false_and, exists_false, false_iff]
    omega
  | p :: l, lo, hi, h, hv, x => by
    obtain ⟨h1, h2⟩ := h
    have ih := chain_mem h2 (fun q hq => hv q (List.mem_cons_of_mem _ hq)) x
    have hp := sz_pos p
    have hle := chain_le h2
    have e : memP (p :: l) x ↔ (p.addr ≤ x ∧ x < p.addr + sz p) ∨ memP l x := by
      simp only [memP, List.mem_cons]
      constructor
      · rintro ⟨q, rfl | hq, h3⟩
        · exact .inl h3.2
        · exact .inr ⟨q, hq, h3⟩
      · rintro (h3 | ⟨q, hq, h3⟩)
        · exact ⟨p, .inl rfl, hv p (List.mem_cons_self ..), h3⟩
        · exact ⟨q, .inr hq, h3⟩
    rw [e, ih]; omega
theorem memP_prefs {l : List Spn} (hl : okS l) (x : Nat) : memP (prefsF l) x ↔ memS l x := by
  have h1 : memP (prefsF l) x ↔ ∃ r ∈ l, memP (vis r 32 0) x := by
    simp only [memP, prefsF, List.mem_flatMap]
    constructor
    · rintro ⟨p, ⟨r, hr, hp⟩, h⟩; exact ⟨r, hr, p, hp, h⟩
    · rintro ⟨r, hr, p, hp, h⟩; exact ⟨p, ⟨r, hr, hp⟩, h⟩
  rw [h1]
  simp only [memS]
  constructor
  · rintro ⟨r, hr, h⟩
    have := hl r hr
    exact ⟨r, hr, (chain_mem (vis_whole r this.1 this.2) (fun p hp => (vis_ok hp).1) x).1 h⟩
  · rintro ⟨r, hr, h⟩
    have := hl r hr
    exact ⟨r, hr, (chain_mem (vis_whole r this.1 this.2) (fun p hp => (vis_ok hp).1) x).2 h⟩
theorem spans_prefs {s : List Spn} (hc : Canon s) (ho : okS s) : spansOf (prefsF s) = s := by
  obtain ⟨a1, a2, a3, _⟩ := spans_spec (prefs_ok s)
  exact Canon.ext_aux a1 hc fun x => by rw [a3, memP_prefs ho]
theorem prefs_any {l : List Spn} (hl : okS l) (x : Nat) : (prefsF l).any (containsB · x) = true ↔ memS l x := by rw [any_contains, memP_prefs hl]
/-! numbers of addresses -/
def cnt : Nat → (Nat → Bool) → Nat
  | 0, _ => 0
  | n + 1, f => cnt n f + if f n then 1 else 0
theorem cnt_congr {f g : Nat → Bool} : ∀ {n : Nat}, (∀ x, x < n → f x = g x) → cnt n f = cnt n g
  | 0, _ => rfl
  | n + 1, h => by simp only [cnt]; rw [cnt_congr (n := n) (fun x hx => h x (by omega)), h n (by omega)]
theorem cnt_or_and (f g : Nat → Bool) : ∀ n, cnt n (fun x => f x || g x) + cnt n (fun x => f x && g x) = cnt n f + cnt n g
  | 0 => rfl
  | n + 1 => by
    have := cnt_or_and f g n
    simp only [cnt]
    rcases Bool.eq_false_or_eq_true (f n) with hf | hf <;> rcases Bool.eq_false_or_eq_true (g n) with hg | hg <;> simp [hf, hg] <;> omega
theorem cnt_none : ∀ n, cnt n (fun _ => false) = 0
  | 0 => rfl
  | n + 1 => by simp [cnt, cnt_none n]
theorem cnt_run (lo hi : Nat) : ∀ n, cnt n (fun x => decide (lo ≤ x) && decide (x < hi)) = min n hi - min n lo
  | 0 => by simp [cnt]
  | n + 1 => by
    simp only [cnt]; rw [cnt_run lo hi n]
    by_cases h1 : lo ≤ n <;> by_cases h2 : n < hi <;> simp [h1, h2] <;> omega
def memB (l : List Spn) (x : Nat) : Bool := l.any fun s => decide (s.lo ≤ x) && decide (x < s.hi)
theorem memB_iff (l : List Spn) (x : Nat) : memB l x = true ↔ memS l x := by simp [memB, memS, List.any_eq_true]
theorem cnt_spans : ∀ {l : List Spn}, Canon l → okS l → cnt (2 ^ 32) (memB l) = cntS l
  | [], _, _ => by
    have : memB [] = fun _ => false := rfl
    rw [this, cnt_none]; rfl
  | s :: l, hc, ho => by
    obtain ⟨h1, h2, h3⟩ := hc.tail
    have ih := cnt_spans h1 (fun t ht => ho t (List.mem_cons_of_mem _ ht))
    have e := cnt_or_and (fun x => decide (s.lo ≤ x) && decide (x < s.hi)) (memB l) (2 ^ 32)
    have e1 : cnt (2 ^ 32) (fun x => (decide (s.lo ≤ x) && decide (x < s.hi)) && memB l x) = 0 := by
      rw [← cnt_none (2 ^ 32)]
      refine cnt_congr fun x _ => ?_
      rw [Bool.eq_false_iff]
      intro h
      simp only [Bool.and_eq_true, decide_eq_true_eq, memB_iff] at h
      have := h3 x h.2
      omega
    have e2 := cnt_run s.lo s.hi (2 ^ 32)
    have hs := (ho s (List.mem_cons_self ..))
    have e3 : cntS (s :: l) = (s.hi - s.lo) + cntS l := by simp [cntS]
    rw [e3, ← ih]
    show cnt (2 ^ 32) (fun x => (decide (s.lo ≤ x) && decide (x < s.hi)) || memB l x) = _
    omega
theorem cnt_max (f : Nat → Bool) : ∀ n, cnt n f ≤ n
  | 0 => Nat.le_refl _
  | n + 1 => by have := cnt_max f n; simp only [cnt]; split <;> omega
theorem cntS_max {l : List Spn} (hc : Canon l) (ho : okS l) : cntS l ≤ 2 ^ 32 := by rw [← cnt_spans hc ho]; exact cnt_max _ _
theorem memB_congr {a b : List Spn} {x : Nat} (h : memS a x ↔ memS b x) : memB a x = memB b x := by
  rw [Bool.eq_iff_iff, memB_iff, memB_iff, h]
/-- union and intersection -/
theorem cnt_union {a b u i : List Spn} (ha : Canon a) (hb : Canon b) (hu : Canon u) (hi : Canon i) (oa : okS a) (ob : okS b) (ou : okS u) (oi : okS i)
    (mu : ∀ x, memS u x ↔ memS a x ∨ memS b x) (mi : ∀ x, memS i x ↔ memS a x ∧ memS b x) : cntS u + cntS i = cntS a + cntS b := by
  rw [← cnt_spans ha oa, ← cnt_spans hb ob, ← cnt_spans hu ou, ← cnt_spans hi oi]
  generalize 2 ^ 32 = N
  have e1 : cnt N (memB u) = cnt N (fun x => memB a x || memB b x) := cnt_congr fun x _ => by rw [Bool.eq_iff_iff, memB_iff, Bool.or_eq_true, memB_iff, memB_iff, mu]
  have e2 : cnt N (memB i) = cnt N (fun x => memB a x && memB b x) := cnt_congr fun x _ => by rw [Bool.eq_iff_iff, memB_iff, Bool.and_eq_true, memB_iff, memB_iff, mi]
  rw [e1, e2, cnt_or_and]
end Go.Pl
/- Plain facts: what a normal list is. -/
namespace Go.Pl
open Go.RT
def parP (p : Pfx) : Pfx × Bool := if validB p = true ∧ p.len ≠ 0 then (ofP p.addr (p.len - 1), true) else (⟨0, 0⟩, false)
theorem parF_eq (p : Pfx) : parentF p = .tup [.agg (encP (parP p).1), Bf (parP p).2] := by
  unfold parentF parP; split <;> rfl
def badPair (q p : Pfx) : Bool := coversB q p || coversB p q || ((parP p).2 && (parP q).2 && decide ((parP p).1 = (parP q).1))
def NormP (l : List Pfx) : Prop := ∀ i p, l[i]? = some p → validB p = true ∧ (∀ q, 0 < i → l[i - 1]? = some q → q.addr < p.addr) ∧ ∀ j q, j < i → l[j]? = some q → badPair q p = false

theorem asc_ext : ∀ {a b : List Pfx}, a.Pairwise (fun p q => p.addr < q.addr) → b.Pairwise (fun p q => p.addr < q.addr) → (∀ p, p ∈ a ↔ p ∈ b) → a = b
  | [], [], _, _, _ => rfl
  | [], y :: b, _, _, h => by have := (h y).2 (List.mem_cons_self ..); cases this
  | x :: a, [], _, _, h => by have := (h x).1 (List.mem_cons_self ..); cases this
  | x :: a, y :: b, ha, hb, h => by
    obtain ⟨a1, a2⟩ := List.pairwise_cons.1 ha
    obtain ⟨b1, b2⟩ := List.pairwise_cons.1 hb
    have e : x = y := by
      rcases List.mem_cons.1 ((h x).1 (List.mem_cons_self ..)) with e | h1
      · exact e
      · rcases List.mem_cons.1 ((h y).2 (List.mem_cons_self ..)) with e | h2
        · exact e.symm
        · have := b1 x h1; have := a1 y h2; omega
    subst e
    refine congrArg _ (asc_ext a2 b2 fun p => ?_)
    constructor
    · intro hp
      rcases List.mem_cons.1 ((h p).1 (List.mem_cons_of_mem _ hp)) with e | h1
      · subst e; have := a1 p hp; omega
      · exact h1
    · intro hp
      rcases List.mem_cons.1 ((h p).2 (List.mem_cons_of_mem _ hp)) with e | h1
      · subst e; have := b1 p hp; omega
      · exact h1
theorem chain_asc : ∀ {l : List Pfx} {lo hi : Nat}, chain lo l hi → l.Pairwise (fun p q => p.addr + sz p ≤ q.addr) ∧ ∀ p ∈ l, lo ≤ p.addr ∧ p.addr + sz p ≤ hi
  | [], _, _, _ => ⟨List.Pairwise.nil, by simp⟩
  | p :: l, lo, hi, h => by
    obtain ⟨h1, h2⟩ := h
    obtain ⟨i1, i2⟩ := chain_asc h2
    have hle := chain_le h2
    refine ⟨List.pairwise_cons.2 ⟨fun q hq => by have := (i2 q hq).1; omega, i1⟩, fun q hq => ?_⟩
    rcases List.mem_cons.1 hq with rfl | hq
    · omega
    · have := i2 q hq; omega
theorem prefs_asc : ∀ {s : List Spn}, Canon s → okS s → (prefsF s).Pairwise (fun p q => p.addr + sz p ≤ q.addr)
  | [], _, _ => List.Pairwise.nil
  | r :: s, hc, ho => by
    have hr := ho r (List.mem_cons_self ..)
    have hc1 := List.pairwise_cons.1 hc.2
    have ih := prefs_asc (s := s) ⟨fun t ht => hc.1 t (List.mem_cons_of_mem _ ht), hc1.2⟩ (fun t ht => ho t (List.mem_cons_of_mem _ ht))
    obtain ⟨c1, c2⟩ := chain_asc (vis_whole r hr.1 hr.2)
    show (vis r 32 0 ++ prefsF s).Pairwise _
    refine List.pairwise_append.2 ⟨c1, ih, fun p hp q hq => ?_⟩
    obtain ⟨t, ht, hq⟩ := List.mem_flatMap.1 hq
    have h2 := ho t (List.mem_cons_of_mem _ ht)
    obtain ⟨_, d2⟩ := chain_asc (vis_whole t h2.1 h2.2)
    have := c2 p hp; have := d2 q hq; have := hc1.1 t ht
    omega
/-- an interval of addresses that are all in the runs lies in one -/
theorem in_run {s : List Spn} (hc : Canon s) {a b : Nat} (hab : a < b) (h : ∀ x, a ≤ x → x < b → memS s x) : ∃ r ∈ s, r.lo ≤ a ∧ b ≤ r.hi := by
  obtain ⟨r, hr, h1, h2⟩ := h a (Nat.le_refl _) hab
  refine ⟨r, hr, h1, ?_⟩
  rcases Nat.lt_or_ge r.hi b with h3 | h3
  · exfalso
    obtain ⟨t, ht, h4, h5⟩ := h r.hi (by omega) h3
    obtain ⟨i, hi, rfl⟩ := List.mem_iff_getElem.1 hr
    obtain ⟨j, hj, rfl⟩ := List.mem_iff_getElem.1 ht
    have hp := List.pairwise_iff_getElem.1 hc.2
    rcases Nat.lt_trichotomy i j with hij | hij | hij
    · have := hp i j hi hj hij; omega
    · subst hij; omega
    · have := hp j i hj hi hij; have := hc.1 s[j] ht; omega
  · exact h3
theorem run_in {s : List Spn} {r : Spn} (hr : r ∈ s) {x : Nat} (h1 : r.lo ≤ x) (h2 : x < r.hi) : memS s x := ⟨r, hr, h1, h2⟩
theorem mem_prefs_iff {s : List Spn} (hc : Canon s) (ho : okS s) (p : Pfx) : p ∈ prefsF s ↔ validB p = true ∧ (∀ x, p.addr ≤ x → x < p.addr + sz p → memS s x) ∧ (hob p = 32 ∨ ¬ ∀ x, pa p ≤ x → x < pa p + 2 * sz p → memS s x) := by
  have hp := sz_pos p
  have key : p ∈ prefsF s ↔ ∃ r ∈ s, p ∈ vis r 32 0 := List.mem_flatMap
  rw [key]
  constructor
  · rintro ⟨r, hr, h⟩
    obtain ⟨h1, _, h3, h4, h5, h6⟩ := (vis_mem r 32 0 (Nat.le_refl _) (Nat.dvd_zero _) p).1 h
    refine ⟨h1, fun x hx1 hx2 => run_in hr (by omega) (by omega), ?_⟩
    rcases h6 with h6 | h6
    · exact .inl h6
    · refine .inr fun hall => h6 ?_
      obtain ⟨e1, e2, e3⟩ := pa_spec p h1
      obtain ⟨t, ht, g1, g2⟩ := in_run hc (show pa p < pa p + 2 * sz p by omega) hall
      have e : t = r := by
        obtain ⟨i, hi, rfl⟩ := List.mem_iff_getElem.1 hr
        obtain ⟨j, hj, rfl⟩ := List.mem_iff_getElem.1 ht
        have hpw := List.pairwise_iff_getElem.1 hc.2
        rcases Nat.lt_trichotomy i j with hij | hij | hij
        · have := hpw i j hi hj hij; omega
        · subst hij; rfl
        · have := hpw j i hj hi hij; omega
      subst e; exact ⟨g1, g2⟩
  · rintro ⟨h1, h2, h3⟩
    obtain ⟨r, hr, g1, g2⟩ := in_run hc (show p.addr < p.addr + sz p by omega) h2
    refine ⟨r, hr, (vis_mem r 32 0 (Nat.le_refl _) (Nat.dvd_zero _) p).2 ⟨h1, Nat.zero_le _, by have := (ho r hr).2; omega, g1, g2, ?_⟩⟩
    rcases h3 with h3 | h3
    · exact .inl h3
    · exact .inr fun hh => h3 fun x hx1 hx2 => run_in hr (by omega) (by omega)
theorem two_sz (p : Pfx) : 2 * sz p = 2 ^ (hob p + 1) := by unfold sz; rw [Nat.pow_succ]; omega
/-- two blocks that share an address: the smaller one lies in the larger one -/
theorem nest_in {a b j k x : Nat} (hjk : j ≤ k) (ha : 2 ^ j ∣ a) (hb : 2 ^ k ∣ b) (h1 : a ≤ x) (h2 : x < a + 2 ^ j) (h3 : b ≤ x) (h4 : x < b + 2 ^ k) : b ≤ a ∧ a + 2 ^ j ≤ b + 2 ^ k := by
  rcases nest ha (Nat.pow_dvd_pow 2 hjk) hb (Nat.two_pow_pos j) with h | h | h
  · omega
  · omega
  · exact h
theorem pow_lt_iff {j k : Nat} (h : 2 ^ k ≤ 2 ^ j) : k ≤ j := (Nat.pow_le_pow_iff_right (by omega)).1 h
theorem par_eq {k a : Nat} (hk : k < 32) (hd : 2 ^ (k + 1) ∣ a) (b : Nat) (hb : b = a ∨ b = a + 2 ^ k) : parP (blk b k) = (blk a (k + 1), true) := by
  have hp := Nat.two_pow_pos k
  have hpw : 2 ^ (k + 1) = 2 ^ k + 2 ^ k := by rw [Nat.pow_succ]; omega
  obtain ⟨d1, d2⟩ := two_dvd hd
  have hv : validB (blk b k) = true := by
    rcases hb with rfl | rfl
    · exact valid_blk (Nat.le_of_lt hk) d1
    · exact valid_blk (Nat.le_of_lt hk) d2
  unfold parP
  rw [if_pos ⟨hv, by unfold blk; simp only; omega⟩]
  have e1 : clampN ((blk b k).len - 1) = 31 - k := by unfold blk clampN; simp only; omega
  have e2 : keepN b (31 - k) = a := (keepN_block (by rw [show 32 - (31 - k) = k + 1 by omega]; exact hd)).2 (by rw [show 32 - (31 - k) = k + 1 by omega]; rcases hb with rfl | rfl <;> omega)
  unfold ofP
  rw [e1]
  show ((⟨keepN b (31 - k), (blk b k).len - 1⟩ : Pfx), true) = _
  rw [e2]
  unfold blk
  simp only [Prod.mk.injEq, Pfx.mk.injEq, and_true, true_and]
  omega
theorem covers_of {q p : Pfx} (hq : validB q = true) (hp : validB p = true) (h1 : q.addr ≤ p.addr) (h2 : p.addr + sz p ≤ q.addr + sz q) : coversB q p = true := by
  have hz := sz_pos p
  have hle : 2 ^ hob p ≤ 2 ^ hob q := by show sz p ≤ sz q; omega
  have := pow_lt_iff hle
  have e1 := valid_len hq
  have e2 := valid_len hp
  unfold coversB
  rw [hp, (contains_iff q p.addr).2 ⟨hq, h1, by omega⟩]
  simp only [Bool.and_self, Bool.true_and, decide_eq_true_eq]
  omega
theorem NormP.asc {l : List Pfx} (h : NormP l) : l.Pairwise (fun p q => p.addr < q.addr) := by
  rw [List.pairwise_iff_getElem]
  intro i j hi hj hij
  obtain ⟨d, rfl⟩ : ∃ d, j = i + 1 + d := ⟨j - (i + 1), by omega⟩
  clear hij
  induction d with
  | zero => exact (h (i + 1) _ (List.getElem?_eq_getElem (by omega))).2.1 _ (by omega) (by simp [List.getElem?_eq_getElem hi])
  | succ d ih =>
    have h1 := ih (by omega)
    have h2 := (h (i + 1 + (d + 1)) _ (List.getElem?_eq_getElem hj)).2.1 l[i + 1 + d] (by omega) (by simp)
    omega
theorem NormP.bad {l : List Pfx} (h : NormP l) {p q : Pfx} (hp : p ∈ l) (hq : q ∈ l) (hlt : q.addr < p.addr) : badPair q p = false := by
  obtain ⟨i, hi, rfl⟩ := List.mem_iff_getElem.1 hp
  obtain ⟨j, hj, rfl⟩ := List.mem_iff_getElem.1 hq
  have ha := List.pairwise_iff_getElem.1 h.asc
  have hji : j < i := by
    rcases Nat.lt_trichotomy i j with hij | hij | hij
    · have := ha i j hi hj hij; omega
    · subst hij; omega
    · exact hij
  exact (h i _ (List.getElem?_eq_getElem hi)).2.2 j _ hji (List.getElem?_eq_getElem hj)
theorem NormP.val {l : List Pfx} (h : NormP l) {p : Pfx} (hp : p ∈ l) : validB p = true := by
  obtain ⟨i, hi, rfl⟩ := List.mem_iff_getElem.1 hp
  exact (h i _ (List.getElem?_eq_getElem hi)).1
theorem NormP.cov {l : List Pfx} (h : NormP l) {p q : Pfx} (hp : p ∈ l) (hq : q ∈ l) (h1 : q.addr ≤ p.addr) (h2 : p.addr + sz p ≤ q.addr + sz q) : q = p := by
  have vp := h.val hp
  have vq := h.val hq
  have hc := covers_of vq vp h1 h2
  rcases Nat.lt_or_ge q.addr p.addr with h3 | h3
  · have := h.bad hp hq h3
    simp [badPair, hc] at this
  · have ha := List.pairwise_iff_getElem.1 h.asc
    obtain ⟨i, hi, rfl⟩ := List.mem_iff_getElem.1 hp
    obtain ⟨j, hj, rfl⟩ := List.mem_iff_getElem.1 hq
    rcases Nat.lt_trichotomy i j with hij | hij | hij
    · have := ha i j hi hj hij; omega
    · subst hij; rfl
    · have := ha j i hj hi hij; omega
/-- a block all of whose addresses are in a normal list lies in one of its prefixes -/
theorem NormP.block {l : List Pfx} (h : NormP l) : ∀ (k a : Nat), k ≤ 32 → 2 ^ k ∣ a → (∀ x, a ≤ x → x < a + 2 ^ k → memP l x) → ∃ e ∈ l, e.addr ≤ a ∧ a + 2 ^ k ≤ e.addr + sz e
  | 0, a, _, _, hx => by
    obtain ⟨e, he, h1, h2, h3⟩ := hx a (Nat.le_refl _) (by simp)
    exact ⟨e, he, h2, by rw [Nat.pow_zero]; omega⟩
  | k + 1, a, hk, hd, hx => by
    have hp := Nat.two_pow_pos k
    have hpw : 2 ^ (k + 1) = 2 ^ k + 2 ^ k := by rw [Nat.pow_succ]; omega
    obtain ⟨d1, d2⟩ := two_dvd hd
    obtain ⟨e0, m0, g1, g2⟩ := h.block k a (by omega) d1 fun x h1 h2 => hx x h1 (by omega)
    obtain ⟨e1, m1, g3, g4⟩ := h.block k (a + 2 ^ k) (by omega) d2 fun x h1 h2 => hx x (by omega) (by omega)
    have v0 := h.val m0
    have v1 := h.val m1
    have big : ∀ e b, e ∈ l → validB e = true → (b = a ∨ b = a + 2 ^ k) → e.addr ≤ b → b + 2 ^ k ≤ e.addr + sz e → hob e ≠ k → ∃ e ∈ l, e.addr ≤ a ∧ a + 2 ^ (k + 1) ≤ e.addr + sz e := by
      intro e b he hv hb h1 h2 hne
      have hle : k ≤ hob e := pow_lt_iff (show 2 ^ k ≤ 2 ^ hob e by show 2 ^ k ≤ sz e; omega)
      exact ⟨e, he, nest_in (j := k + 1) (k := hob e) (x := b) (by omega) hd ((valid_iff e).1 hv).2 (by omega) (by omega) h1 (by show b < e.addr + sz e; omega)⟩
    by_cases c0 : hob e0 = k
    · by_cases c1 : hob e1 = k
      · exfalso
        have z0 : sz e0 = 2 ^ k := by unfold sz; rw [c0]
        have z1 : sz e1 = 2 ^ k := by unfold sz; rw [c1]
        have q0 : e0 = blk a k := by rw [eq_blk v0, c0]; congr 1; omega
        have q1 : e1 = blk (a + 2 ^ k) k := by rw [eq_blk v1, c1]; congr 1; omega
        have hb := h.bad m1 m0 (by rw [q0, q1]; simp only [blk]; omega)
        rw [q0, q1] at hb
        simp [badPair, par_eq (by omega) hd a (.inl rfl), par_eq (by omega) hd (a + 2 ^ k) (.inr rfl)] at hb
      · exact big e1 (a + 2 ^ k) m1 v1 (.inr rfl) g3 g4 c1
    · exact big e0 a m0 v0 (.inl rfl) g1 g2 c0
theorem norm_iff {l : List Pfx} (hl : okL l) : NormP l ↔ l = prefsF (spansOf l) := by
  obtain ⟨a1, a2, a3, _⟩ := spans_spec hl
  constructor
  · intro h
    refine asc_ext h.asc ((prefs_asc a1 a2).imp fun {p q} hpq => by have := sz_pos p; omega) fun p => ?_
    rw [mem_prefs_iff a1 a2]
    constructor
    · intro hp
      have hv := h.val hp
      refine ⟨hv, fun x h1 h2 => (a3 x).2 ⟨p, hp, hv, h1, h2⟩, ?_⟩
      by_cases h32 : hob p = 32
      · exact .inl h32
      · refine .inr fun hall => ?_
        obtain ⟨e1, e2, e3⟩ := pa_spec p hv
        have hz := sz_pos p
        have hh := hob_le p
        have ez := two_sz p
        obtain ⟨e, he, g1, g2⟩ := h.block (hob p + 1) (pa p) (by omega) (by rw [← ez]; exact e1) fun x h1 h2 => (a3 x).1 (hall x h1 (by omega))
        rw [← ez] at g2
        have := h.cov hp he (by omega) (by omega)
        subst this
        omega
    · rintro ⟨hv, h1, h2⟩
      have hz := sz_pos p
      obtain ⟨e, he, g1, g2⟩ := h.block (hob p) p.addr (hob_le p) ((valid_iff p).1 hv).2 fun x hx1 hx2 => (a3 x).1 (h1 x hx1 hx2)
      have ve := h.val he
      have hle : hob p ≤ hob e := pow_lt_iff (show 2 ^ hob p ≤ 2 ^ hob e by show sz p ≤ sz e; unfold sz at *; omega)
      have g2' : p.addr + sz p ≤ e.addr + sz e := g2
      by_cases c : hob e = hob p
      · have z : sz e = sz p := by unfold sz; rw [c]
        have : p = e := by rw [eq_blk hv, eq_blk ve, c]; congr 1; omega
        rw [this]; exact he
      · exfalso
        have h32 := hob_le e
        rcases h2 with h2 | h2
        · omega
        · obtain ⟨e1, e2, e3⟩ := pa_spec p hv
          have ez := two_sz p
          obtain ⟨k1, k2⟩ := nest_in (j := hob p + 1) (k := hob e) (a := pa p) (b := e.addr) (x := p.addr) (by omega) (by rw [← ez]; exact e1) ((valid_iff e).1 ve).2 (by omega) (by omega) g1 (by show p.addr < e.addr + sz e; omega)
          have k2' : pa p + 2 ^ (hob p + 1) ≤ e.addr + sz e := k2
          exact h2 fun x hx1 hx2 => (a3 x).2 ⟨e, he, ve, by omega, by omega⟩
  · intro h i p hp
    have hm : ∀ q, q ∈ l → q ∈ prefsF (spansOf l) := fun q hq => by rw [← h]; exact hq
    have hps := hm p (List.mem_of_getElem? hp)
    obtain ⟨v, g1, g2⟩ := (mem_prefs_iff a1 a2 p).1 hps
    have pw := prefs_asc a1 a2
    rw [← h] at pw
    rw [List.pairwise_iff_getElem] at pw
    obtain ⟨hi, hpe⟩ := List.getElem?_eq_some_iff.1 hp
    have far : ∀ j q, j < i → l[j]? = some q → q.addr + sz q ≤ p.addr := fun j q hj hq => by
      obtain ⟨hjl, hqe⟩ := List.getElem?_eq_some_iff.1 hq
      have := pw j i hjl hi hj
      rw [hpe, hqe] at this
      exact this
    refine ⟨v, fun q h0 hq => by have := far (i - 1) q (by omega) hq; have := sz_pos q; omega, fun j q hj hq => ?_⟩
    have hf := far j q hj hq
    have hqs := hm q (List.mem_of_getElem? hq)
    obtain ⟨vq, k1, k2⟩ := (mem_prefs_iff a1 a2 q).1 hqs
    have zq := sz_pos q
    have zp := sz_pos p
    have c1 : coversB q p = false := by
      rw [Bool.eq_false_iff]; intro hc
      simp only [coversB, Bool.and_eq_true] at hc
      have := (contains_iff q p.addr).1 hc.1.2; omega
    have c2 : coversB p q = false := by
      rw [Bool.eq_false_iff]; intro hc
      simp only [coversB, Bool.and_eq_true] at hc
      have := (contains_iff p q.addr).1 hc.1.2; omega
    unfold badPair
    rw [c1, c2]
    simp only [Bool.false_or]
    rw [Bool.eq_false_iff]
    intro hb
    simp only [Bool.and_eq_true, decide_eq_true_eq] at hb
    obtain ⟨⟨b1, b2⟩, b3⟩ := hb
    have np : p.len ≠ 0 := fun e => by unfold parP at b1; rw [if_neg (fun h => h.2 e)] at b1; cases b1
    have nq : q.len ≠ 0 := fun e => by unfold parP at b2; rw [if_neg (fun h => h.2 e)] at b2; cases b2
    unfold parP at b3
    rw [if_pos ⟨v, np⟩, if_pos ⟨vq, nq⟩] at b3
    simp only [ofP, Pfx.mk.injEq] at b3
    have lp := valid_len v
    have lq := valid_len vq
    have hh := hob_le p
    have hh2 := hob_le q
    have ehob : hob p = hob q := by omega
    have hk : hob q < 32 := by omega
    have ec : clampN (p.len - 1) = 31 - hob q := by unfold clampN; omega
    have ec2 : clampN (q.len - 1) = 31 - hob q := by unfold clampN; omega
    rw [ec, ec2] at b3
    have hkm : ∀ x, keepN x (31 - hob q) ≤ x ∧ x < keepN x (31 - hob q) + 2 ^ (hob q + 1) ∧ 2 ^ (hob q + 1) ∣ keepN x (31 - hob q) := fun x => by
      have d : 2 ^ (hob q + 1) ∣ keepN x (31 - hob q) := by have := keep_mul x (31 - hob q); rwa [show 32 - (31 - hob q) = hob q + 1 by omega] at this
      have := (keepN_block (x := x) (c := 31 - hob q) (a := keepN x (31 - hob q)) (by rw [show 32 - (31 - hob q) = hob q + 1 by omega]; exact d)).1 rfl
      rw [show 32 - (31 - hob q) = hob q + 1 by omega] at this
      exact ⟨this.1, this.2, d⟩
    obtain ⟨u1, u2, u3⟩ := hkm q.addr
    obtain ⟨w1, w2, w3⟩ := hkm p.addr
    rw [b3.1] at w1 w2 w3
    generalize keepN q.addr (31 - hob q) = b at *
    have ez := two_sz q
    have eszp : sz p = sz q := by unfold sz; rw [ehob]
    have dq := ((valid_iff q).1 vq).2
    have dp := ((valid_iff p).1 v).2
    have db : sz q ∣ b := Nat.dvd_trans ⟨2, by omega⟩ u3
    have epa : pa q = b := pa_uniq vq (by rw [ez]; exact u3) u1 (by omega)
    have h9 : p.addr + sz p ≤ b + 2 * sz q := by
      rw [ez]; exact block_fit (s := sz p) dp (by
        have : sz p ∣ b := by rw [eszp]; exact db
        refine (Nat.dvd_add_right this).2 ?_
        rw [← ez, eszp]; exact ⟨2, Nat.mul_comm _ _⟩) w2
    have eq0 : q.addr = b := by omega
    have ep0 : p.addr = b + sz q := by omega
    rcases k2 with k2 | k2
    · omega
    · refine k2 fun x h1 h2 => ?_
      rw [epa] at h1 h2
      rcases Nat.lt_or_ge x (b + sz q) with h3 | h3
      · exact k1 x (by omega) (by omega)
      · exact g1 x (by omega) (by omega)
end Go.Pl
/- Plain facts: the summary and its halves. -/
namespace Go.Pl
open Go.RT
theorem sumK_spec {lo hi : Nat} (hl : lo < 2 ^ 32) (hh : hi < 2 ^ 32) : ∀ f k, f + k = 32 → (k = 0 ∨ lo / 2 ^ (k - 1) ≠ hi / 2 ^ (k - 1)) →
    sumK lo hi f k ≤ 32 ∧ lo / 2 ^ sumK lo hi f k = hi / 2 ^ sumK lo hi f k ∧ (sumK lo hi f k = 0 ∨ lo / 2 ^ (sumK lo hi f k - 1) ≠ hi / 2 ^ (sumK lo hi f k - 1))
  | 0, k, e, h => by
    have : k = 32 := by omega
    subst this
    simp only [sumK]
    exact ⟨Nat.le_refl _, by rw [Nat.div_eq_of_lt hl, Nat.div_eq_of_lt hh], h⟩
  | f + 1, k, e, h => by
    simp only [sumK]
    split
    · rename_i h1; exact ⟨by omega, h1, h⟩
    · rename_i h1; exact sumK_spec hl hh f (k + 1) (by omega) (.inr h1)
theorem canon_ends {a : Spn} {t : List Spn} (hc : Canon (a :: t)) (ho : okS (a :: t)) : memS (a :: t) a.lo ∧ memS (a :: t) (((a :: t).getLast (by simp)).hi - 1) ∧ ∀ x, memS (a :: t) x → a.lo ≤ x ∧ x ≤ ((a :: t).getLast (by simp)).hi - 1 := by
  have hz := List.getLast_mem (l := a :: t) (by simp)
  have h1 := ho _ hz
  have h0 := ho a (by simp)
  refine ⟨⟨a, by simp, Nat.le_refl _, h0.1⟩, ⟨_, hz, by omega, by omega⟩, ?_⟩
  rintro x ⟨s, hs, g1, g2⟩
  have hs1 := hc.1 s hs
  constructor
  · rcases List.mem_cons.1 hs with rfl | h
    · exact g1
    · have := (List.pairwise_cons.1 hc.2).1 s h
      omega
  · have e : (a :: t) = (a :: t).dropLast ++ [(a :: t).getLast (by simp)] := (List.dropLast_concat_getLast (by simp)).symm
    have hc2 : Canon ((a :: t).dropLast ++ [(a :: t).getLast (by simp)]) := by rw [← e]; exact hc
    have := hc2.hi_le s (by rw [← e]; exact hs)
    omega
theorem sum_facts {l : List Pfx} (hl : okL l) (hne : spansOf l ≠ []) : ∃ lo hi k, sumOf (spansOf l) = (upB lo k, true) ∧ lo < 2 ^ 32 ∧ hi < 2 ^ 32 ∧ memP l lo ∧ memP l hi ∧ (∀ x, memP l x → lo ≤ x ∧ x ≤ hi) ∧ k ≤ 32 ∧ lo / 2 ^ k = hi / 2 ^ k ∧ (k = 0 ∨ lo / 2 ^ (k - 1) ≠ hi / 2 ^ (k - 1)) := by
  obtain ⟨a1, a2, a3, _⟩ := spans_spec hl
  cases hs : spansOf l with
  | nil => exact absurd hs hne
  | cons a t =>
    rw [hs] at a1 a2 a3
    obtain ⟨h1, h2, h3⟩ := canon_ends a1 a2
    have g1 := memS_lt a2 h1
    have g2 := memS_lt a2 h2
    obtain ⟨k1, k2, k3⟩ := sumK_spec g1 g2 32 0 rfl (.inl rfl)
    exact ⟨a.lo, ((a :: t).getLast (by simp)).hi - 1, sumK a.lo (((a :: t).getLast (by simp)).hi - 1) 32 0, rfl, g1, g2, (a3 _).1 h1, (a3 _).1 h2, fun x hx => h3 x ((a3 x).2 hx), k1, k2, k3⟩
def halP (p : Pfx) : Pfx × Pfx × Bool := if validB p = true ∧ p.len ≠ 32 then (⟨p.addr, p.len + 1⟩, ⟨p.addr ||| 2 ^ (hob p - 1), p.len + 1⟩, true) else (⟨0, 0⟩, ⟨0, 0⟩, false)
theorem halP_blk {a k : Nat} (hk : k < 32) (hd : 2 ^ (k + 1) ∣ a) : halP (blk a (k + 1)) = (blk a k, blk (a + 2 ^ k) k, true) := by
  unfold halP
  rw [if_pos ⟨valid_blk hk hd, by unfold blk; simp only; omega⟩, hob_blk hk]
  obtain ⟨q, rfl⟩ := hd
  have e := lor_low q (k + 1) (2 ^ k) (Nat.pow_lt_pow_right (by omega) (by omega))
  rw [Nat.mul_comm q] at e
  have e1 : (blk (2 ^ (k + 1) * q) (k + 1)).addr ||| 2 ^ (k + 1 - 1) = 2 ^ (k + 1) * q + 2 ^ k := e
  have e2 : (blk (2 ^ (k + 1) * q) (k + 1)).len + 1 = 32 - (k : Int) := by unfold blk; simp only; omega
  rw [e1, e2]
  rfl
/-- the halves of a summary: neither covers all -/
theorem sum_law {l : List Pfx} (hl : okL l) (hf : l.any validB = true) : (sumOf (spansOf l)).2 = true ∧ (l.all fun p => !validB p || coversB (sumOf (spansOf l)).1 p) = true ∧
    ((sumOf (spansOf l)).1.len = 32 ∨ (l.all fun p => !validB p || coversB (halP (sumOf (spansOf l)).1).1 p) = false ∧ (l.all fun p => !validB p || coversB (halP (sumOf (spansOf l)).1).2.1 p) = false) := by
  obtain ⟨p0, hp0, hv0⟩ := List.any_eq_true.1 hf
  have hne : spansOf l ≠ [] := fun e => by
    have := (spans_spec hl).2.2.1 p0.addr
    rw [e] at this
    exact memS_nil _ (this.2 ⟨p0, hp0, hv0, Nat.le_refl _, by have := sz_pos p0; omega⟩)
  obtain ⟨lo, hi, k, e, g1, g2, m1, m2, hm, hk, e1, e2⟩ := sum_facts hl hne
  obtain ⟨_, hvs⟩ := upB_ok (k := k) g1 hk
  rw [e]
  have hes : sz (upB lo k) = 2 ^ k := sz_blk hk
  have hpk := Nat.two_pow_pos k
  have inb : ∀ x, memP l x → (upB lo k).addr ≤ x ∧ x < (upB lo k).addr + 2 ^ k := fun x hx => by
    have h1 := hm x hx
    have h2 : lo / 2 ^ k ≤ x / 2 ^ k := Nat.div_le_div_right h1.1
    have h3 : x / 2 ^ k ≤ hi / 2 ^ k := Nat.div_le_div_right h1.2
    exact (div_block (2 ^ k) hpk).2 (by omega)
  refine ⟨rfl, ?_, ?_⟩
  · rw [List.all_eq_true]
    intro p hp
    by_cases hv : validB p = true
    · have hz := sz_pos p
      have h1 := inb p.addr ⟨p, hp, hv, Nat.le_refl _, by omega⟩
      have h2 := inb (p.addr + sz p - 1) ⟨p, hp, hv, by omega, by omega⟩
      rw [covers_of hvs hv h1.1 (by rw [hes]; omega)]; simp
    · simp [hv]
  · cases k with
    | zero => left; rfl
    | succ j =>
      right
      simp only [Nat.add_sub_cancel, Nat.add_one_ne_zero, false_or] at e2
      have hA : 2 ^ (j + 1) ∣ lo / 2 ^ (j + 1) * 2 ^ (j + 1) := Nat.dvd_mul_left _ _
      have hpj := Nat.two_pow_pos j
      have hpw : 2 ^ (j + 1) = 2 ^ j + 2 ^ j := by rw [Nat.pow_succ]; omega
      have b1 := inb lo m1
      have b2 := inb hi m2
      have hlh := (hm lo m1).2
      show (l.all fun p => !validB p || coversB (halP (blk (lo / 2 ^ (j + 1) * 2 ^ (j + 1)) (j + 1))).1 p) = false ∧ (l.all fun p => !validB p || coversB (halP (blk (lo / 2 ^ (j + 1) * 2 ^ (j + 1)) (j + 1))).2.1 p) = false
      rw [halP_blk (by omega) hA]
      have ba : (upB lo (j + 1)).addr = lo / 2 ^ (j + 1) * 2 ^ (j + 1) := rfl
      rw [ba] at b1 b2
      generalize lo / 2 ^ (j + 1) * 2 ^ (j + 1) = A at *
      obtain ⟨d1, d2⟩ := two_dvd hA
      -- lo is in the left half, hi in the right one
      have left : lo < A + 2 ^ j := by
        rcases Nat.lt_or_ge lo (A + 2 ^ j) with h | h
        · exact h
        · exfalso; apply e2
          obtain ⟨q, hq⟩ := d2
          have f1 : lo / 2 ^ j = q := by
            rw [Nat.div_eq_iff hpj, Nat.mul_comm q]; omega
          have f2 : hi / 2 ^ j = q := by
            rw [Nat.div_eq_iff hpj, Nat.mul_comm q]; omega
          rw [f1, f2]
      have right : A + 2 ^ j ≤ hi := by
        rcases Nat.lt_or_ge hi (A + 2 ^ j) with h | h
        · exfalso; apply e2
          obtain ⟨q, hq⟩ := d1
          have f1 : lo / 2 ^ j = q := by
            rw [Nat.div_eq_iff hpj, Nat.mul_comm q]; omega
          have f2 : hi / 2 ^ j = q := by
            rw [Nat.div_eq_iff hpj, Nat.mul_comm q]; omega
          rw [f1, f2]
        · exact h
      constructor
      · obtain ⟨p, hp, hv, h1, h2⟩ := m2
        rw [Bool.eq_false_iff]; intro hall
        have := List.all_eq_true.1 hall p hp
        simp only [hv, Bool.not_true, Bool.false_or] at this
        simp only [coversB, Bool.and_eq_true, decide_eq_true_eq] at this
        obtain ⟨⟨_, c1⟩, c2⟩ := this
        have c3 := (contains_iff _ _).1 c1
        rw [sz_blk (by omega)] at c3
        have hpl := valid_len hv
        have hjp : hob p ≤ j := by unfold blk at c2; simp only at c2; omega
        obtain ⟨k1, k2⟩ := nest_in (j := hob p) (k := j) (a := p.addr) (b := A) (x := p.addr) hjp ((valid_iff p).1 hv).2 d1 (Nat.le_refl _) (by have := sz_pos p; show p.addr < p.addr + sz p; omega) c3.2.1 c3.2.2
        have k3 : p.addr + sz p ≤ A + 2 ^ j := k2
        omega
      · obtain ⟨p, hp, hv, h1, h2⟩ := m1
        rw [Bool.eq_false_iff]; intro hall
        have := List.all_eq_true.1 hall p hp
        simp only [hv, Bool.not_true, Bool.false_or] at this
        simp only [coversB, Bool.and_eq_true, decide_eq_true_eq] at this
        have c3 := (contains_iff _ _).1 this.1.2
        have c4 : (blk (A + 2 ^ j) j).addr = A + 2 ^ j := rfl
        omega
theorem sum_none {l : List Pfx} (hl : okL l) (hf : l.any validB = false) : sumOf (spansOf l) = (⟨0, 0⟩, false) := by
  have : runsOf l = [] := by
    unfold runsOf
    rw [List.map_eq_nil_iff, List.filter_eq_nil_iff]
    intro p hp hv
    have := List.any_eq_false.1 hf p hp
    exact this hv
  unfold spansOf; rw [this]; rfl
end Go.Pl
namespace Go.Proofs.Ytdebjffddkgfbaa
open Go Go.RT Go.Proofs Go.Pl
set_option linter.all false
set_option maxRecDepth 20000
theorem large_c (a b : List Pfx) : Pure Try.prog 13 [VP a, VP b] (Bf (decide ((60 : Int) < a.length) || decide ((60 : Int) < b.length))) := by
  refine Meets.intro Try.func13 rfl (Nat.le_of_ble_eq_true rfl) fun C hC => ?_
  simp only [List.map, argEnv, Nat.reduceAdd]
  refine nK ?_
  refine s_reg rfl ?_
  first | refine Run.pure (dd := some 4) rfl rfl (op_assign rfl (Opd.const _)) ?_ | refine Run.pure (dd := some 4) rfl rfl (op_junk (.inr rfl)) ?_
  refine Run.nil (FinR.mk ?_)
  refine nK ?_
  refine s_reg rfl ?_
  first | refine Run.pure (dd := some 5) rfl rfl (op_move rfl (Opd.tmp _ _ rfl)) ?_ | refine Run.pure (dd := some 5) rfl rfl (op_junk (.inl rfl)) ?_
  first | refine Run.pure (dd := some 6) rfl rfl (op_len_fz rfl (by first | exact Opd.tmp _ _ rfl | exact Opd.nil _ _ (Opd.tmp _ _ rfl)) (by first | exact List.length_map _ | rfl)) ?_ | refine Run.pure (dd := some 6) rfl rfl (op_len_sl rfl (Opd.tmp _ _ rfl)) ?_
  refine Run.pure (dd := some 7) rfl rfl (op_gtr rfl (Opd.tmp _ _ rfl) (Opd.const _)) ?_
  first | refine Run.pure (dd := some 8) rfl rfl (op_move rfl (Opd.tmp _ _ rfl)) ?_ | refine Run.pure (dd := some 8) rfl rfl (op_junk (.inl rfl)) ?_
  first | refine Run.pureG (dd := some 9) rfl rfl rfl tG (op_move rfl (Opd.tmp _ _ rfl)) ?_ | refine Run.pureG (dd := some 9) rfl rfl rfl tG (op_junk (.inl rfl)) ?_
  first | refine Run.pureG (dd := some 10) rfl rfl rfl tG (op_len_fz rfl (by first | exact Opd.topt _ _ _ rfl tO | exact Opd.nil _ _ (Opd.topt _ _ _ rfl tO)) (by first | exact List.length_map _ | rfl)) ?_ | refine Run.pureG (dd := some 10) rfl rfl rfl tG (op_len_sl rfl (Opd.topt _ _ _ rfl tO)) ?_
  refine Run.pureG (dd := some 11) rfl rfl rfl tG (op_gtr rfl (Opd.topt _ _ _ rfl tO) (Opd.const _)) ?_
  refine Run.pure (dd := some 12) rfl rfl (op_pick_or rfl (Opd.tmp _ _ rfl) (Opd.topt _ _ _ rfl tO)) ?_
  first | refine Run.pure (dd := some 4) rfl rfl (op_assign rfl (Opd.tmp _ _ rfl)) ?_ | refine Run.pure (dd := some 4) rfl rfl (op_junk (.inr rfl)) ?_
  refine Run.nil (FinR.mk ?_)
  refine nK ?_
  (first | exact s_o1 hC rfl tV | exact s_o2 hC rfl tV tV | exact s_o3 hC rfl tV tV tV | exact s_out0 hC rfl | exact s_outO hC rfl rfl rfl)
theorem range_law (a b : Nat) (ha : a < 2 ^ 32) (hb0 : b < 2 ^ 32) : Pure Try.prog 3 [If .u32 a, If .u32 b] (Bf true) := by
  have h1 := crange_c a b ha hb0
  have h2 := rrange_c a b ha hb0
  unfold rangeF at h1 h2
  have h62 := prefs62 ⟨a, b + 1⟩
  by_cases hab : a ≤ b
  · rw [if_pos hab] at h1 h2
    generalize prefsF [⟨a, b + 1⟩] = l at *
    have h3 := same_any l l (by omega) (by omega)
    refine Meets.intro Try.func3 rfl (Nat.le_of_ble_eq_true rfl) fun C hC => ?_
    simp only [List.map, argEnv, Nat.reduceAdd]
    refine nK ?_
    refine s_reg rfl ?_
    first | refine Run.pure (dd := some 4) rfl rfl (op_assign rfl (Opd.const _)) ?_ | refine Run.pure (dd := some 4) rfl rfl (op_junk (.inr rfl)) ?_
    refine Run.nil (FinR.mk ?_)
    refine nK ?_
    refine s_reg rfl ?_
    first | refine Run.pure (dd := some 10) rfl rfl (op_move rfl (Opd.tmp _ _ rfl)) ?_ | refine Run.pure (dd := some 10) rfl rfl (op_junk (.inl rfl)) ?_
    first | refine Run.pure (dd := some 11) rfl rfl (op_move rfl (Opd.tmp _ _ rfl)) ?_ | refine Run.pure (dd := some 11) rfl rfl (op_junk (.inl rfl)) ?_
    refine Run.pure (dd := some 12) rfl rfl (op_call_pure (fun _ => h1) rfl (Opd.func _) (Opds.cons _ _ _ _ (Opd.tmp _ _ rfl) (Opds.cons _ _ _ _ (Opd.tmp _ _ rfl) Opds.nil))) ?_
    first | refine Run.pure (dd := some 9) rfl rfl (op_move rfl (Opd.tmp _ _ rfl)) ?_ | refine Run.pure (dd := some 9) rfl rfl (op_junk (.inl rfl)) ?_
    first | refine Run.pure (dd := some 13) rfl rfl (op_extract_fz rfl (Opd.tmp _ _ rfl) rfl) ?_ | refine Run.pure (dd := some 13) rfl rfl (op_extract rfl (Opd.tmp _ _ rfl) rfl) ?_
    first | refine Run.pure (dd := some 14) rfl rfl (op_extract_fz rfl (Opd.tmp _ _ rfl) rfl) ?_ | refine Run.pure (dd := some 14) rfl rfl (op_extract rfl (Opd.tmp _ _ rfl) rfl) ?_
    first | refine Run.pure (dd := some 5) rfl rfl (op_assign rfl (Opd.tmp _ _ rfl)) ?_ | refine Run.pure (dd := some 5) rfl rfl (op_junk (.inr rfl)) ?_
    first | refine Run.pure (dd := some 6) rfl rfl (op_assign rfl (Opd.tmp _ _ rfl)) ?_ | refine Run.pure (dd := some 6) rfl rfl (op_junk (.inr rfl)) ?_
    refine Run.nil (FinR.mk ?_)
    refine nK ?_
    refine s_reg rfl ?_
    first | refine Run.pure (dd := some 16) rfl rfl (op_move rfl (Opd.tmp _ _ rfl)) ?_ | refine Run.pure (dd := some 16) rfl rfl (op_junk (.inl rfl)) ?_
    first | refine Run.pure (dd := some 17) rfl rfl (op_move rfl (Opd.tmp _ _ rfl)) ?_ | refine Run.pure (dd := some 17) rfl rfl (op_junk (.inl rfl)) ?_
    refine Run.pure (dd := some 18) rfl rfl (op_call_pure (fun _ => h2) rfl (Opd.func _) (Opds.cons _ _ _ _ (Opd.tmp _ _ rfl) (Opds.cons _ _ _ _ (Opd.tmp _ _ rfl) Opds.nil))) ?_
    first | refine Run.pure (dd := some 15) rfl rfl (op_move rfl (Opd.tmp _ _ rfl)) ?_ | refine Run.pure (dd := some 15) rfl rfl (op_junk (.inl rfl)) ?_
    first | refine Run.pure (dd := some 19) rfl rfl (op_extract_fz rfl (Opd.tmp _ _ rfl) rfl) ?_ | refine Run.pure (dd := some 19) rfl rfl (op_extract rfl (Opd.tmp _ _ rfl) rfl) ?_
    first | refine Run.pure (dd := some 20) rfl rfl (op_extract_fz rfl (Opd.tmp _ _ rfl) rfl) ?_ | refine Run.pure (dd := some 20) rfl rfl (op_extract rfl (Opd.tmp _ _ rfl) rfl) ?_
    first | refine Run.pure (dd := some 7) rfl rfl (op_assign rfl (Opd.tmp _ _ rfl)) ?_ | refine Run.pure (dd := some 7) rfl rfl (op_junk (.inr rfl)) ?_
    first | refine Run.pure (dd := some 8) rfl rfl (op_assign rfl (Opd.tmp _ _ rfl)) ?_ | refine Run.pure (dd := some 8) rfl rfl (op_junk (.inr rfl)) ?_
    refine Run.nil (FinR.mk ?_)
    refine nK ?_
    refine s_reg rfl ?_
    refine Run.pure (dd := some 21) rfl rfl (op_call_pure (fun _ => awake_c) rfl (Opd.func _) Opds.nil) ?_
    first | refine Run.pure (dd := some 22) rfl rfl (op_move rfl (Opd.tmp _ _ rfl)) ?_ | refine Run.pure (dd := some 22) rfl rfl (op_junk (.inl rfl)) ?_
    first | refine Run.pureG (dd := some 23) rfl rfl rfl tG (op_move rfl (Opd.tmp _ _ rfl)) ?_ | refine Run.pureG (dd := some 23) rfl rfl rfl tG (op_junk (.inl rfl)) ?_
    first | refine Run.pureG (dd := some 24) rfl rfl rfl tG (op_move rfl (Opd.tmp _ _ rfl)) ?_ | refine Run.pureG (dd := some 24) rfl rfl rfl tG (op_junk (.inl rfl)) ?_
    refine Run.pureG (dd := some 25) rfl rfl rfl tG (op_call_pure (fun _ => h3) rfl (Opd.func _) (Opds.cons _ _ _ _ (Opd.topt _ _ _ rfl tO) (Opds.cons _ _ _ _ (Opd.topt _ _ _ rfl tO) Opds.nil))) ?_
    refine Run.pure (dd := some 26) rfl rfl (op_pick_and rfl (Opd.tmp _ _ rfl) (Opd.topt _ _ _ rfl tO)) ?_
    first | refine Run.pure (dd := some 27) rfl rfl (op_move rfl (Opd.tmp _ _ rfl)) ?_ | refine Run.pure (dd := some 27) rfl rfl (op_junk (.inl rfl)) ?_
    first | refine Run.pureG (dd := some 28) rfl rfl rfl tG (op_move rfl (Opd.tmp _ _ rfl)) ?_ | refine Run.pureG (dd := some 28) rfl rfl rfl tG (op_junk (.inl rfl)) ?_
    first | refine Run.pureG (dd := some 29) rfl rfl rfl tG (op_move rfl (Opd.tmp _ _ rfl)) ?_ | refine Run.pureG (dd := some 29) rfl rfl rfl tG (op_junk (.inl rfl)) ?_
    refine Run.pureG (dd := some 30) rfl rfl rfl tG (op_eql rfl (Opd.topt _ _ _ rfl tO) (Opd.topt _ _ _ rfl tO)) ?_
    refine Run.pure (dd := some 31) rfl rfl (op_pick_and rfl (Opd.tmp _ _ rfl) (Opd.topt _ _ _ rfl tO)) ?_
    first | refine Run.pure (dd := some 32) rfl rfl (op_move rfl (Opd.tmp _ _ rfl)) ?_ | refine Run.pure (dd := some 32) rfl rfl (op_junk (.inl rfl)) ?_
    first | refine Run.pureG (dd := some 33) rfl rfl rfl tG (op_move rfl (Opd.tmp _ _ rfl)) ?_ | refine Run.pureG (dd := some 33) rfl rfl rfl tG (op_junk (.inl rfl)) ?_
    first | refine Run.pureG (dd := some 34) rfl rfl rfl tG (op_len_fz rfl (by first | exact Opd.topt _ _ _ rfl tO | exact Opd.nil _ _ (Opd.topt _ _ _ rfl tO)) (by first | exact List.length_map _ | rfl)) ?_ | refine Run.pureG (dd := some 34) rfl rfl rfl tG (op_len_sl rfl (Opd.topt _ _ _ rfl tO)) ?_
    refine Run.pureG (dd := some 35) rfl rfl rfl tG (op_leq rfl (Opd.topt _ _ _ rfl tO) (Opd.const _)) ?_
    refine Run.pure (dd := some 36) rfl rfl (op_pick_and rfl (Opd.tmp _ _ rfl) (Opd.topt _ _ _ rfl tO)) ?_
    first | refine Run.pure (dd := some 4) rfl rfl (op_assign rfl (Opd.tmp _ _ rfl)) ?_ | refine Run.pure (dd := some 4) rfl rfl (op_junk (.inr rfl)) ?_
    refine Run.nil (FinR.mk ?_)
    refine nK ?_
    refine s_oB hC rfl rfl ?_
    simp; omega
  · rw [if_neg hab] at h1 h2
    have h3 := same_any [] [] (by simp) (by simp)
    refine Meets.intro Try.func3 rfl (Nat.le_of_ble_eq_true rfl) fun C hC => ?_
    simp only [List.map, argEnv, Nat.reduceAdd]
    refine nK ?_
    refine s_reg rfl ?_
    first | refine Run.pure (dd := some 4) rfl rfl (op_assign rfl (Opd.const _)) ?_ | refine Run.pure (dd := some 4) rfl rfl (op_junk (.inr rfl)) ?_
    refine Run.nil (FinR.mk ?_)
    refine nK ?_
    refine s_reg rfl ?_
    first | refine Run.pure (dd := some 10) rfl rfl (op_move rfl (Opd.tmp _ _ rfl)) ?_ | refine Run.pure (dd := some 10) rfl rfl (op_junk (.inl rfl)) ?_
    first | refine Run.pure (dd := some 11) rfl rfl (op_move rfl (Opd.tmp _ _ rfl)) ?_ | refine Run.pure (dd := some 11) rfl rfl (op_junk (.inl rfl)) ?_
    refine Run.pure (dd := some 12) rfl rfl (op_call_pure (fun _ => h1) rfl (Opd.func _) (Opds.cons _ _ _ _ (Opd.tmp _ _ rfl) (Opds.cons _ _ _ _ (Opd.tmp _ _ rfl) Opds.nil))) ?_
    first | refine Run.pure (dd := some 9) rfl rfl (op_move rfl (Opd.tmp _ _ rfl)) ?_ | refine Run.pure (dd := some 9) rfl rfl (op_junk (.inl rfl)) ?_
    first | refine Run.pure (dd := some 13) rfl rfl (op_extract_fz rfl (Opd.tmp _ _ rfl) rfl) ?_ | refine Run.pure (dd := some 13) rfl rfl (op_extract rfl (Opd.tmp _ _ rfl) rfl) ?_
    first | refine Run.pure (dd := some 14) rfl rfl (op_extract_fz rfl (Opd.tmp _ _ rfl) rfl) ?_ | refine Run.pure (dd := some 14) rfl rfl (op_extract rfl (Opd.tmp _ _ rfl) rfl) ?_
    first | refine Run.pure (dd := some 5) rfl rfl (op_assign rfl (Opd.tmp _ _ rfl)) ?_ | refine Run.pure (dd := some 5) rfl rfl (op_junk (.inr rfl)) ?_
    first | refine Run.pure (dd := some 6) rfl rfl (op_assign rfl (Opd.tmp _ _ rfl)) ?_ | refine Run.pure (dd := some 6) rfl rfl (op_junk (.inr rfl)) ?_
    refine Run.nil (FinR.mk ?_)
    refine nK ?_
    refine s_reg rfl ?_
    first | refine Run.pure (dd := some 16) rfl rfl (op_move rfl (Opd.tmp _ _ rfl)) ?_ | refine Run.pure (dd := some 16) rfl rfl (op_junk (.inl rfl)) ?_
    first | refine Run.pure (dd := some 17) rfl rfl (op_move rfl (Opd.tmp _ _ rfl)) ?_ | refine Run.pure (dd := some 17) rfl rfl (op_junk (.inl rfl)) ?_
    refine Run.pure (dd := some 18) rfl rfl (op_call_pure (fun _ => h2) rfl (Opd.func _) (Opds.cons _ _ _ _ (Opd.tmp _ _ rfl) (Opds.cons _ _ _ _ (Opd.tmp _ _ rfl) Opds.nil))) ?_
    first | refine Run.pure (dd := some 15) rfl rfl (op_move rfl (Opd.tmp _ _ rfl)) ?_ | refine Run.pure (dd := some 15) rfl rfl (op_junk (.inl rfl)) ?_
    first | refine Run.pure (dd := some 19) rfl rfl (op_extract_fz rfl (Opd.tmp _ _ rfl) rfl) ?_ | refine Run.pure (dd := some 19) rfl rfl (op_extract rfl (Opd.tmp _ _ rfl) rfl) ?_
    first | refine Run.pure (dd := some 20) rfl rfl (op_extract_fz rfl (Opd.tmp _ _ rfl) rfl) ?_ | refine Run.pure (dd := some 20) rfl rfl (op_extract rfl (Opd.tmp _ _ rfl) rfl) ?_
    first | refine Run.pure (dd := some 7) rfl rfl (op_assign rfl (Opd.tmp _ _ rfl)) ?_ | refine Run.pure (dd := some 7) rfl rfl (op_junk (.inr rfl)) ?_
    first | refine Run.pure (dd := some 8) rfl rfl (op_assign rfl (Opd.tmp _ _ rfl)) ?_ | refine Run.pure (dd := some 8) rfl rfl (op_junk (.inr rfl)) ?_
    refine Run.nil (FinR.mk ?_)
    refine nK ?_
    refine s_reg rfl ?_
    refine Run.pure (dd := some 21) rfl rfl (op_call_pure (fun _ => awake_c) rfl (Opd.func _) Opds.nil) ?_
    first | refine Run.pure (dd := some 22) rfl rfl (op_move rfl (Opd.tmp _ _ rfl)) ?_ | refine Run.pure (dd := some 22) rfl rfl (op_junk (.inl rfl)) ?_
    first | refine Run.pureG (dd := some 23) rfl rfl rfl tG (op_move rfl (Opd.tmp _ _ rfl)) ?_ | refine Run.pureG (dd := some 23) rfl rfl rfl tG (op_junk (.inl rfl)) ?_
    first | refine Run.pureG (dd := some 24) rfl rfl rfl tG (op_move rfl (Opd.tmp _ _ rfl)) ?_ | refine Run.pureG (dd := some 24) rfl rfl rfl tG (op_junk (.inl rfl)) ?_
    refine Run.pureG (dd := some 25) rfl rfl rfl tG (op_call_pure (fun _ => h3) rfl (Opd.func _) (Opds.cons _ _ _ _ (Opd.topt _ _ _ rfl tO) (Opds.cons _ _ _ _ (Opd.topt _ _ _ rfl tO) Opds.nil))) ?_
    refine Run.pure (dd := some 26) rfl rfl (op_pick_and rfl (Opd.tmp _ _ rfl) (Opd.topt _ _ _ rfl tO)) ?_
    first | refine Run.pure (dd := some 27) rfl rfl (op_move rfl (Opd.tmp _ _ rfl)) ?_ | refine Run.pure (dd := some 27) rfl rfl (op_junk (.inl rfl)) ?_
    first | refine Run.pureG (dd := some 28) rfl rfl rfl tG (op_move rfl (Opd.tmp _ _ rfl)) ?_ | refine Run.pureG (dd := some 28) rfl rfl rfl tG (op_junk (.inl rfl)) ?_
    first | refine Run.pureG (dd := some 29) rfl rfl rfl tG (op_move rfl (Opd.tmp _ _ rfl)) ?_ | refine Run.pureG (dd := some 29) rfl rfl rfl tG (op_junk (.inl rfl)) ?_
    refine Run.pureG (dd := some 30) rfl rfl rfl tG (op_eql rfl (Opd.topt _ _ _ rfl tO) (Opd.topt _ _ _ rfl tO)) ?_
    refine Run.pure (dd := some 31) rfl rfl (op_pick_and rfl (Opd.tmp _ _ rfl) (Opd.topt _ _ _ rfl tO)) ?_
    first | refine Run.pure (dd := some 32) rfl rfl (op_move rfl (Opd.tmp _ _ rfl)) ?_ | refine Run.pure (dd := some 32) rfl rfl (op_junk (.inl rfl)) ?_
    first | refine Run.pureG (dd := some 33) rfl rfl rfl tG (op_move rfl (Opd.tmp _ _ rfl)) ?_ | refine Run.pureG (dd := some 33) rfl rfl rfl tG (op_junk (.inl rfl)) ?_
    first | refine Run.pureG (dd := some 34) rfl rfl rfl tG (op_len_fz rfl (by first | exact Opd.topt _ _ _ rfl tO | exact Opd.nil _ _ (Opd.topt _ _ _ rfl tO)) (by first | exact List.length_map _ | rfl)) ?_ | refine Run.pureG (dd := some 34) rfl rfl rfl tG (op_len_sl rfl (Opd.topt _ _ _ rfl tO)) ?_
    refine Run.pureG (dd := some 35) rfl rfl rfl tG (op_leq rfl (Opd.topt _ _ _ rfl tO) (Opd.const _)) ?_
    refine Run.pure (dd := some 36) rfl rfl (op_pick_and rfl (Opd.tmp _ _ rfl) (Opd.topt _ _ _ rfl tO)) ?_
    first | refine Run.pure (dd := some 4) rfl rfl (op_assign rfl (Opd.tmp _ _ rfl)) ?_ | refine Run.pure (dd := some 4) rfl rfl (op_junk (.inr rfl)) ?_
    refine Run.nil (FinR.mk ?_)
    refine nK ?_
    refine s_oB hC rfl rfl ?_
    simp
theorem sets_len {a b : List Pfx} (ha : okL a) (hb : okL b) (h1 : a.length ≤ 60) (h2 : b.length ≤ 60) :
    (prefsF (spansOf (a ++ b))).length ≤ 7440 ∧ (prefsF (interS (spansOf a) (spansOf b))).length ≤ 223200 ∧ (prefsF (interS (spansOf a) (compS 0 (spansOf b)))).length ≤ 226920 := by
  obtain ⟨_, a2, _, a4⟩ := spans_spec ha
  obtain ⟨b1, b2, _, b4⟩ := spans_spec hb
  obtain ⟨_, _, _, c4⟩ := spans_spec (l := a ++ b) (fun p hp => (List.mem_append.1 hp).elim (ha p) (hb p))
  have p1 := prefs_len (spansOf (a ++ b))
  have p2 := prefs_len (interS (spansOf a) (spansOf b))
  have p3 := prefs_len (interS (spansOf a) (compS 0 (spansOf b)))
  have q2 := (canon_spec (meetS_ok (b := spansOf b) a2)).2.2.2
  have q3 := (canon_spec (meetS_ok (b := compS 0 (spansOf b)) a2)).2.2.2
  have l2 := meet_len (spansOf a) (spansOf b)
  have l3 := meet_len (spansOf a) (compS 0 (spansOf b))
  have cl := compS_len (spansOf b) 0
  have m2 : (spansOf a).length * (spansOf b).length ≤ 60 * 60 := Nat.mul_le_mul (by omega) (by omega)
  have m3 : (spansOf a).length * (compS 0 (spansOf b)).length ≤ 60 * 61 := Nat.mul_le_mul (by omega) (by omega)
  rw [List.length_append] at c4
  unfold interS at *
  exact ⟨by omega, by omega, by omega⟩
theorem sets_law (a b : List Pfx) (ha : okL a) (hb0 : okL b) : Pure Try.prog 5 [VP a, VP b] (Bf true) := by
  refine Meets.intro Try.func5 rfl (Nat.le_of_ble_eq_true rfl) fun C hC => ?_
  simp only [List.map, argEnv, Nat.reduceAdd]
  refine nK ?_
  refine s_reg rfl ?_
  first | refine Run.pure (dd := some 4) rfl rfl (op_assign rfl (Opd.const _)) ?_ | refine Run.pure (dd := some 4) rfl rfl (op_junk (.inr rfl)) ?_
  refine Run.nil (FinR.mk ?_)
  refine nK ?_
  refine s_reg rfl ?_
  first | refine Run.pure (dd := some 5) rfl rfl (op_move rfl (Opd.tmp _ _ rfl)) ?_ | refine Run.pure (dd := some 5) rfl rfl (op_junk (.inl rfl)) ?_
  first | refine Run.pure (dd := some 6) rfl rfl (op_move rfl (Opd.tmp _ _ rfl)) ?_ | refine Run.pure (dd := some 6) rfl rfl (op_junk (.inl rfl)) ?_
  refine Run.pure (dd := some 7) rfl rfl (op_call_pure (fun _ => large_c _ _) rfl (Opd.func _) (Opds.cons _ _ _ _ (Opd.tmp _ _ rfl) (Opds.cons _ _ _ _ (Opd.tmp _ _ rfl) Opds.nil))) ?_
  refine Run.nil (FinR.mk ?_)
  refine nK ?_
  refine n_cond _ rfl (fun hb => ?_) (fun hb => ?_)
  · refine nK ?_
    refine s_reg rfl ?_
    refine Run.pure (dd := some 8) rfl rfl (op_call_pure (fun _ => awake_c) rfl (Opd.func _) Opds.nil) ?_
    first | refine Run.pure (dd := some 4) rfl rfl (op_assign rfl (Opd.tmp _ _ rfl)) ?_ | refine Run.pure (dd := some 4) rfl rfl (op_junk (.inr rfl)) ?_
    refine Run.nil (FinR.mk ?_)
    refine nK ?_
    (first | exact s_o1 hC rfl tV | exact s_o2 hC rfl tV tV | exact s_o3 hC rfl tV tV tV | exact s_out0 hC rfl | exact s_outO hC rfl rfl rfl)
  · have h1 : a.length ≤ 60 := by simp at hb; omega
    have h2 : b.length ≤ 60 := by simp at hb; omega
    obtain ⟨l1, l2, l3⟩ := sets_len ha hb0 h1 h2
    refine nK ?_
    refine s_reg rfl ?_
    refine Run.pure (dd := some 9) rfl rfl (op_call_pure (fun _ => awake_c) rfl (Opd.func _) Opds.nil) ?_
    first | refine Run.pure (dd := some 10) rfl rfl (op_move rfl (Opd.tmp _ _ rfl)) ?_ | refine Run.pure (dd := some 10) rfl rfl (op_junk (.inl rfl)) ?_
    first | refine Run.pureG (dd := some 11) rfl rfl rfl tG (op_move rfl (Opd.tmp _ _ rfl)) ?_ | refine Run.pureG (dd := some 11) rfl rfl rfl tG (op_junk (.inl rfl)) ?_
    first | refine Run.pureG (dd := some 12) rfl rfl rfl tG (op_move rfl (Opd.tmp _ _ rfl)) ?_ | refine Run.pureG (dd := some 12) rfl rfl rfl tG (op_junk (.inl rfl)) ?_
    refine Run.pureG (dd := some 13) rfl rfl rfl tG (op_call_pure (fun _ => cunion_c _ _ (by assumption) (by assumption) (by omega)) rfl (Opd.func _) (Opds.cons _ _ _ _ (Opd.topt _ _ _ rfl tO) (Opds.cons _ _ _ _ (Opd.topt _ _ _ rfl tO) Opds.nil))) ?_
    first | refine Run.pureG (dd := some 14) rfl rfl rfl tG (op_move rfl (Opd.tmp _ _ rfl)) ?_ | refine Run.pureG (dd := some 14) rfl rfl rfl tG (op_junk (.inl rfl)) ?_
    first | refine Run.pureG (dd := some 15) rfl rfl rfl tG (op_move rfl (Opd.tmp _ _ rfl)) ?_ | refine Run.pureG (dd := some 15) rfl rfl rfl tG (op_junk (.inl rfl)) ?_
    refine Run.pureG (dd := some 16) rfl rfl rfl tG (op_call_pure (fun _ => runion_c _ _ (by assumption) (by assumption) (by omega)) rfl (Opd.func _) (Opds.cons _ _ _ _ (Opd.topt _ _ _ rfl tO) (Opds.cons _ _ _ _ (Opd.topt _ _ _ rfl tO) Opds.nil))) ?_
    refine Run.pureG (dd := some 17) rfl rfl rfl tG (op_call_pure (fun _ => same_any _ _ (by omega) (by omega)) rfl (Opd.func _) (Opds.cons _ _ _ _ (Opd.topt _ _ _ rfl tO) (Opds.cons _ _ _ _ (Opd.topt _ _ _ rfl tO) Opds.nil))) ?_
    refine Run.pure (dd := some 18) rfl rfl (op_pick_and rfl (Opd.tmp _ _ rfl) (Opd.topt _ _ _ rfl tO)) ?_
    first | refine Run.pure (dd := some 19) rfl rfl (op_move rfl (Opd.tmp _ _ rfl)) ?_ | refine Run.pure (dd := some 19) rfl rfl (op_junk (.inl rfl)) ?_
    first | refine Run.pureG (dd := some 20) rfl rfl rfl tG (op_move rfl (Opd.tmp _ _ rfl)) ?_ | refine Run.pureG (dd := some 20) rfl rfl rfl tG (op_junk (.inl rfl)) ?_
    first | refine Run.pureG (dd := some 21) rfl rfl rfl tG (op_move rfl (Opd.tmp _ _ rfl)) ?_ | refine Run.pureG (dd := some 21) rfl rfl rfl tG (op_junk (.inl rfl)) ?_
    refine Run.pureG (dd := some 22) rfl rfl rfl tG (op_call_pure (fun _ => cinter_c _ _ (by assumption) (by assumption) (by omega) (by omega)) rfl (Opd.func _) (Opds.cons _ _ _ _ (Opd.topt _ _ _ rfl tO) (Opds.cons _ _ _ _ (Opd.topt _ _ _ rfl tO) Opds.nil))) ?_
    first | refine Run.pureG (dd := some 23) rfl rfl rfl tG (op_move rfl (Opd.tmp _ _ rfl)) ?_ | refine Run.pureG (dd := some 23) rfl rfl rfl tG (op_junk (.inl rfl)) ?_
    first | refine Run.pureG (dd := some 24) rfl rfl rfl tG (op_move rfl (Opd.tmp _ _ rfl)) ?_ | refine Run.pureG (dd := some 24) rfl rfl rfl tG (op_junk (.inl rfl)) ?_
    refine Run.pureG (dd := some 25) rfl rfl rfl tG (op_call_pure (fun _ => rinter_c _ _ (by assumption) (by assumption) (by omega) (by omega)) rfl (Opd.func _) (Opds.cons _ _ _ _ (Opd.topt _ _ _ rfl tO) (Opds.cons _ _ _ _ (Opd.topt _ _ _ rfl tO) Opds.nil))) ?_
    refine Run.pureG (dd := some 26) rfl rfl rfl tG (op_call_pure (fun _ => same_any _ _ (by omega) (by omega)) rfl (Opd.func _) (Opds.cons _ _ _ _ (Opd.topt _ _ _ rfl tO) (Opds.cons _ _ _ _ (Opd.topt _ _ _ rfl tO) Opds.nil))) ?_
    refine Run.pure (dd := some 27) rfl rfl (op_pick_and rfl (Opd.tmp _ _ rfl) (Opd.topt _ _ _ rfl tO)) ?_
    first | refine Run.pure (dd := some 28) rfl rfl (op_move rfl (Opd.tmp _ _ rfl)) ?_ | refine Run.pure (dd := some 28) rfl rfl (op_junk (.inl rfl)) ?_
    first | refine Run.pureG (dd := some 29) rfl rfl rfl tG (op_move rfl (Opd.tmp _ _ rfl)) ?_ | refine Run.pureG (dd := some 29) rfl rfl rfl tG (op_junk (.inl rfl)) ?_
    first | refine Run.pureG (dd := some 30) rfl rfl rfl tG (op_move rfl (Opd.tmp _ _ rfl)) ?_ | refine Run.pureG (dd := some 30) rfl rfl rfl tG (op_junk (.inl rfl)) ?_
    refine Run.pureG (dd := some 31) rfl rfl rfl tG (op_call_pure (fun _ => csub_c _ _ (by assumption) (by assumption) (by omega) (by omega)) rfl (Opd.func _) (Opds.cons _ _ _ _ (Opd.topt _ _ _ rfl tO) (Opds.cons _ _ _ _ (Opd.topt _ _ _ rfl tO) Opds.nil))) ?_
    first | refine Run.pureG (dd := some 32) rfl rfl rfl tG (op_move rfl (Opd.tmp _ _ rfl)) ?_ | refine Run.pureG (dd := some 32) rfl rfl rfl tG (op_junk (.inl rfl)) ?_
    first | refine Run.pureG (dd := some 33) rfl rfl rfl tG (op_move rfl (Opd.tmp _ _ rfl)) ?_ | refine Run.pureG (dd := some 33) rfl rfl rfl tG (op_junk (.inl rfl)) ?_
    refine Run.pureG (dd := some 34) rfl rfl rfl tG (op_call_pure (fun _ => rsub_c _ _ (by assumption) (by assumption) (by omega) (by omega)) rfl (Opd.func _) (Opds.cons _ _ _ _ (Opd.topt _ _ _ rfl tO) (Opds.cons _ _ _ _ (Opd.topt _ _ _ rfl tO) Opds.nil))) ?_
    refine Run.pureG (dd := some 35) rfl rfl rfl tG (op_call_pure (fun _ => same_any _ _ (by omega) (by omega)) rfl (Opd.func _) (Opds.cons _ _ _ _ (Opd.topt _ _ _ rfl tO) (Opds.cons _ _ _ _ (Opd.topt _ _ _ rfl tO) Opds.nil))) ?_
    refine Run.pure (dd := some 36) rfl rfl (op_pick_and rfl (Opd.tmp _ _ rfl) (Opd.topt _ _ _ rfl tO)) ?_
    first | refine Run.pure (dd := some 4) rfl rfl (op_assign rfl (Opd.tmp _ _ rfl)) ?_ | refine Run.pure (dd := some 4) rfl rfl (op_junk (.inr rfl)) ?_
    refine Run.nil (FinR.mk ?_)
    refine nK ?_
    refine s_oB hC rfl rfl ?_
    simp
theorem normal_law (l : List Pfx) (hl : okL l) : Pure Try.prog 7 [VP l] (Bf true) := by
  refine Meets.intro Try.func7 rfl (Nat.le_of_ble_eq_true rfl) fun C hC => ?_
  simp only [List.map, argEnv, Nat.reduceAdd]
  refine nK ?_
  refine s_reg rfl ?_
  first | refine Run.pure (dd := some 2) rfl rfl (op_assign rfl (Opd.const _)) ?_ | refine Run.pure (dd := some 2) rfl rfl (op_junk (.inr rfl)) ?_
  refine Run.nil (FinR.mk ?_)
  refine nK ?_
  refine s_reg rfl ?_
  first | refine Run.pure (dd := some 7) rfl rfl (op_move rfl (Opd.tmp _ _ rfl)) ?_ | refine Run.pure (dd := some 7) rfl rfl (op_junk (.inl rfl)) ?_
  refine Run.pure (dd := some 8) rfl rfl (op_call_pure (fun _ => large_c l []) rfl (Opd.func _) (Opds.cons _ _ _ _ (Opd.tmp _ _ rfl) (Opds.cons _ _ _ _ (Opd.nil _ _ (Opd.const _)) Opds.nil))) ?_
  refine Run.nil (FinR.mk ?_)
  refine nK ?_
  refine n_cond _ rfl (fun hb => ?_) (fun hb => ?_)
  · refine nK ?_
    refine s_reg rfl ?_
    refine Run.pure (dd := some 9) rfl rfl (op_call_pure (fun _ => awake_c) rfl (Opd.func _) Opds.nil) ?_
    first | refine Run.pure (dd := some 2) rfl rfl (op_assign rfl (Opd.tmp _ _ rfl)) ?_ | refine Run.pure (dd := some 2) rfl rfl (op_junk (.inr rfl)) ?_
    refine Run.nil (FinR.mk ?_)
    refine nK ?_
    (first | exact s_o1 hC rfl tV | exact s_o2 hC rfl tV tV | exact s_o3 hC rfl tV tV tV | exact s_out0 hC rfl | exact s_outO hC rfl rfl rfl)
  · have h1 : l.length ≤ 60 := by simp at hb; omega
    obtain ⟨_, _, _, a4⟩ := spans_spec hl
    have hp := prefs_len (spansOf l)
    refine nK ?_
    refine s_reg rfl ?_
    first | refine Run.pure (dd := some 11) rfl rfl (op_move rfl (Opd.tmp _ _ rfl)) ?_ | refine Run.pure (dd := some 11) rfl rfl (op_junk (.inl rfl)) ?_
    refine Run.pure (dd := some 12) rfl rfl (op_call_pure (fun _ => csum_c _ (by assumption) (by omega)) rfl (Opd.func _) (Opds.cons _ _ _ _ (Opd.tmp _ _ rfl) Opds.nil)) ?_
    first | refine Run.pure (dd := some 10) rfl rfl (op_move rfl (Opd.tmp _ _ rfl)) ?_ | refine Run.pure (dd := some 10) rfl rfl (op_junk (.inl rfl)) ?_
    first | refine Run.pure (dd := some 13) rfl rfl (op_extract_fz rfl (Opd.tmp _ _ rfl) rfl) ?_ | refine Run.pure (dd := some 13) rfl rfl (op_extract rfl (Opd.tmp _ _ rfl) rfl) ?_
    first | refine Run.pure (dd := some 14) rfl rfl (op_extract_fz rfl (Opd.tmp _ _ rfl) rfl) ?_ | refine Run.pure (dd := some 14) rfl rfl (op_extract rfl (Opd.tmp _ _ rfl) rfl) ?_
    refine Run.eff (dd := some 3) rfl rfl (op_alloc rfl rfl rfl rfl) ?_
    first | refine Run.eff (dd := none) rfl rfl (op_store_flat rfl (Opd.tmp _ _ rfl) (Opd.tmp _ _ rfl) tC rfl rfl (by first | rfl | assumption) tS) ?_ | refine Run.eff (dd := none) rfl rfl (op_store_refs rfl (Opd.tmp _ _ rfl) (Opd.tmp _ _ rfl) tP rfl rfl rfl tS) ?_
    first | refine Run.pure (dd := some 4) rfl rfl (op_assign rfl (Opd.tmp _ _ rfl)) ?_ | refine Run.pure (dd := some 4) rfl rfl (op_junk (.inr rfl)) ?_
    refine Run.nil (FinR.mk ?_)
    refine nK ?_
    refine s_reg rfl ?_
    first | refine Run.pure (dd := some 16) rfl rfl (op_move rfl (Opd.tmp _ _ rfl)) ?_ | refine Run.pure (dd := some 16) rfl rfl (op_junk (.inl rfl)) ?_
    refine Run.pure (dd := some 17) rfl rfl (op_call_pure (fun _ => rsum_c _ (by assumption) (by omega)) rfl (Opd.func _) (Opds.cons _ _ _ _ (Opd.tmp _ _ rfl) Opds.nil)) ?_
    first | refine Run.pure (dd := some 15) rfl rfl (op_move rfl (Opd.tmp _ _ rfl)) ?_ | refine Run.pure (dd := some 15) rfl rfl (op_junk (.inl rfl)) ?_
    first | refine Run.pure (dd := some 18) rfl rfl (op_extract_fz rfl (Opd.tmp _ _ rfl) rfl) ?_ | refine Run.pure (dd := some 18) rfl rfl (op_extract rfl (Opd.tmp _ _ rfl) rfl) ?_
    first | refine Run.pure (dd := some 19) rfl rfl (op_extract_fz rfl (Opd.tmp _ _ rfl) rfl) ?_ | refine Run.pure (dd := some 19) rfl rfl (op_extract rfl (Opd.tmp _ _ rfl) rfl) ?_
    refine Run.eff (dd := some 5) rfl rfl (op_alloc rfl rfl rfl rfl) ?_
    first | refine Run.eff (dd := none) rfl rfl (op_store_flat rfl (Opd.tmp _ _ rfl) (Opd.tmp _ _ rfl) tC rfl rfl (by first | rfl | assumption) tS) ?_ | refine Run.eff (dd := none) rfl rfl (op_store_refs rfl (Opd.tmp _ _ rfl) (Opd.tmp _ _ rfl) tP rfl rfl rfl tS) ?_
    first | refine Run.pure (dd := some 6) rfl rfl (op_assign rfl (Opd.tmp _ _ rfl)) ?_ | refine Run.pure (dd := some 6) rfl rfl (op_junk (.inr rfl)) ?_
    refine Run.nil (FinR.mk ?_)
    refine nK ?_
    refine s_reg rfl ?_
    refine Run.pure (dd := some 20) rfl rfl (op_call_pure (fun _ => awake_c) rfl (Opd.func _) Opds.nil) ?_
    first | refine Run.pure (dd := some 21) rfl rfl (op_move rfl (Opd.tmp _ _ rfl)) ?_ | refine Run.pure (dd := some 21) rfl rfl (op_junk (.inl rfl)) ?_
    first | refine Run.pureG (dd := some 22) rfl rfl rfl tG (op_move rfl (Opd.tmp _ _ rfl)) ?_ | refine Run.pureG (dd := some 22) rfl rfl rfl tG (op_junk (.inl rfl)) ?_
    refine Run.pureG (dd := some 23) rfl rfl rfl tG (op_call_pure (fun _ => cnormal_c _ (by assumption) (by omega)) rfl (Opd.func _) (Opds.cons _ _ _ _ (Opd.topt _ _ _ rfl tO) Opds.nil)) ?_
    first | refine Run.pureG (dd := some 24) rfl rfl rfl tG (op_move rfl (Opd.tmp _ _ rfl)) ?_ | refine Run.pureG (dd := some 24) rfl rfl rfl tG (op_junk (.inl rfl)) ?_
    refine Run.pureG (dd := some 25) rfl rfl rfl tG (op_call_pure (fun _ => rnormal_c _ (by assumption) (by omega)) rfl (Opd.func _) (Opds.cons _ _ _ _ (Opd.topt _ _ _ rfl tO) Opds.nil)) ?_
    refine Run.pureG (dd := some 26) rfl rfl rfl tG (op_call_pure (fun _ => same_any _ _ (by omega) (by omega)) rfl (Opd.func _) (Opds.cons _ _ _ _ (Opd.topt _ _ _ rfl tO) (Opds.cons _ _ _ _ (Opd.topt _ _ _ rfl tO) Opds.nil))) ?_
    refine Run.pure (dd := some 27) rfl rfl (op_pick_and rfl (Opd.tmp _ _ rfl) (Opd.topt _ _ _ rfl tO)) ?_
    first | refine Run.pure (dd := some 28) rfl rfl (op_move rfl (Opd.tmp _ _ rfl)) ?_ | refine Run.pure (dd := some 28) rfl rfl (op_junk (.inl rfl)) ?_
    first | refine Run.pureG (dd := some 29) rfl rfl rfl tG (op_move rfl (Opd.tmp _ _ rfl)) ?_ | refine Run.pureG (dd := some 29) rfl rfl rfl tG (op_junk (.inl rfl)) ?_
    refine Run.pureG (dd := some 30) rfl rfl rfl tG (op_call_pure (fun _ => cis_c _ (by assumption) (by omega)) rfl (Opd.func _) (Opds.cons _ _ _ _ (Opd.topt _ _ _ rfl tO) Opds.nil)) ?_
    first | refine Run.pureG (dd := some 31) rfl rfl rfl tG (op_move rfl (Opd.tmp _ _ rfl)) ?_ | refine Run.pureG (dd := some 31) rfl rfl rfl tG (op_junk (.inl rfl)) ?_
    refine Run.pureG (dd := some 32) rfl rfl rfl tG (op_call_pure (fun _ => ris_c _ (by assumption) (by omega)) rfl (Opd.func _) (Opds.cons _ _ _ _ (Opd.topt _ _ _ rfl tO) Opds.nil)) ?_
    refine Run.pureG (dd := some 33) rfl rfl rfl tG (op_eqlB rfl (Opd.topt _ _ _ rfl tO) (Opd.topt _ _ _ rfl tO)) ?_
    refine Run.pure (dd := some 34) rfl rfl (op_pick_and rfl (Opd.tmp _ _ rfl) (Opd.topt _ _ _ rfl tO)) ?_
    first | refine Run.pure (dd := some 35) rfl rfl (op_move rfl (Opd.tmp _ _ rfl)) ?_ | refine Run.pure (dd := some 35) rfl rfl (op_junk (.inl rfl)) ?_
    first | refine Run.pureG (dd := some 36) rfl rfl rfl tG (op_move rfl (Opd.tmp _ _ rfl)) ?_ | refine Run.pureG (dd := some 36) rfl rfl rfl tG (op_junk (.inl rfl)) ?_
    refine Run.pureG (dd := some 37) rfl rfl rfl tG (op_call_pure (fun _ => ccount_c _ (by assumption) (by omega)) rfl (Opd.func _) (Opds.cons _ _ _ _ (Opd.topt _ _ _ rfl tO) Opds.nil)) ?_
    first | refine Run.pureG (dd := some 38) rfl rfl rfl tG (op_move rfl (Opd.tmp _ _ rfl)) ?_ | refine Run.pureG (dd := some 38) rfl rfl rfl tG (op_junk (.inl rfl)) ?_
    refine Run.pureG (dd := some 39) rfl rfl rfl tG (op_call_pure (fun _ => rcount_c _ (by assumption) (by omega)) rfl (Opd.func _) (Opds.cons _ _ _ _ (Opd.topt _ _ _ rfl tO) Opds.nil)) ?_
    refine Run.pureG (dd := some 40) rfl rfl rfl tG (op_eql rfl (Opd.topt _ _ _ rfl tO) (Opd.topt _ _ _ rfl tO)) ?_
    refine Run.pure (dd := some 41) rfl rfl (op_pick_and rfl (Opd.tmp _ _ rfl) (Opd.topt _ _ _ rfl tO)) ?_
    first | refine Run.pure (dd := some 42) rfl rfl (op_move rfl (Opd.tmp _ _ rfl)) ?_ | refine Run.pure (dd := some 42) rfl rfl (op_junk (.inl rfl)) ?_
    first | refine Run.loadG (dd := some 43) rfl rfl rfl tG (op_loadw_flat rfl (Opd.tmp _ _ rfl) tH rfl) ?_ | refine Run.pureG (dd := some 43) rfl rfl rfl tG (op_loadw_fz rfl (Opd.tmp _ _ rfl) rfl) ?_ | refine Run.loadG (dd := some 43) rfl rfl rfl tG (op_loadn_flat rfl (Opd.tmp _ _ rfl) tH tR tR) ?_ | refine Run.pureG (dd := some 43) rfl rfl rfl tG (op_loadn_fz rfl (Opd.tmp _ _ rfl) tR) ?_ | refine Run.loadG (dd := some 43) rfl rfl rfl tG (op_loadn_refs rfl (Opd.tmp _ _ rfl) tH tR tR) ?_
    first | refine Run.loadG (dd := some 44) rfl rfl rfl tG (op_loadw_flat rfl (Opd.tmp _ _ rfl) tH rfl) ?_ | refine Run.pureG (dd := some 44) rfl rfl rfl tG (op_loadw_fz rfl (Opd.tmp _ _ rfl) rfl) ?_ | refine Run.loadG (dd := some 44) rfl rfl rfl tG (op_loadn_flat rfl (Opd.tmp _ _ rfl) tH tR tR) ?_ | refine Run.pureG (dd := some 44) rfl rfl rfl tG (op_loadn_fz rfl (Opd.tmp _ _ rfl) tR) ?_ | refine Run.loadG (dd := some 44) rfl rfl rfl tG (op_loadn_refs rfl (Opd.tmp _ _ rfl) tH tR tR) ?_
    refine Run.pureG (dd := some 45) rfl rfl rfl tG (op_eqS rfl (Opd.topt _ _ _ rfl tO) (Opd.topt _ _ _ rfl tO) (by kernel_rfl)) ?_
    refine Run.pure (dd := some 46) rfl rfl (op_pick_and rfl (Opd.tmp _ _ rfl) (Opd.topt _ _ _ rfl tO)) ?_
    first | refine Run.pure (dd := some 47) rfl rfl (op_move rfl (Opd.tmp _ _ rfl)) ?_ | refine Run.pure (dd := some 47) rfl rfl (op_junk (.inl rfl)) ?_
    first | refine Run.pureG (dd := some 48) rfl rfl rfl tG (op_move rfl (Opd.tmp _ _ rfl)) ?_ | refine Run.pureG (dd := some 48) rfl rfl rfl tG (op_junk (.inl rfl)) ?_
    first | refine Run.pureG (dd := some 49) rfl rfl rfl tG (op_move rfl (Opd.tmp _ _ rfl)) ?_ | refine Run.pureG (dd := some 49) rfl rfl rfl tG (op_junk (.inl rfl)) ?_
    refine Run.pureG (dd := some 50) rfl rfl rfl tG (op_eqlB rfl (Opd.topt _ _ _ rfl tO) (Opd.topt _ _ _ rfl tO)) ?_
    refine Run.pure (dd := some 51) rfl rfl (op_pick_and rfl (Opd.tmp _ _ rfl) (Opd.topt _ _ _ rfl tO)) ?_
    first | refine Run.pure (dd := some 2) rfl rfl (op_assign rfl (Opd.tmp _ _ rfl)) ?_ | refine Run.pure (dd := some 2) rfl rfl (op_junk (.inr rfl)) ?_
    refine Run.nil (FinR.mk ?_)
    refine nK ?_
    refine s_oB hC rfl rfl ?_
    simp [eqFs_encP]
theorem members_law (a b : List Pfx) (x : Nat) (ha : okL a) (hb0 : okL b) (hx : x < 2 ^ 32) : Pure Try.prog 6 [VP a, VP b, If .u32 x] (Bf true) := by
  have hp1 := prefs_ok (spansOf a)
  have hp2 := prefs_ok (spansOf (a ++ b))
  have hp3 := prefs_ok (interS (spansOf a) (spansOf b))
  have hp4 := prefs_ok (interS (spansOf a) (compS 0 (spansOf b)))
  refine Meets.intro Try.func6 rfl (Nat.le_of_ble_eq_true rfl) fun C hC => ?_
  simp only [List.map, argEnv, Nat.reduceAdd]
  refine nK ?_
  refine s_reg rfl ?_
  first | refine Run.pure (dd := some 6) rfl rfl (op_assign rfl (Opd.const _)) ?_ | refine Run.pure (dd := some 6) rfl rfl (op_junk (.inr rfl)) ?_
  refine Run.nil (FinR.mk ?_)
  refine nK ?_
  refine s_reg rfl ?_
  first | refine Run.pure (dd := some 9) rfl rfl (op_move rfl (Opd.tmp _ _ rfl)) ?_ | refine Run.pure (dd := some 9) rfl rfl (op_junk (.inl rfl)) ?_
  first | refine Run.pure (dd := some 10) rfl rfl (op_move rfl (Opd.tmp _ _ rfl)) ?_ | refine Run.pure (dd := some 10) rfl rfl (op_junk (.inl rfl)) ?_
  refine Run.pure (dd := some 11) rfl rfl (op_call_pure (fun _ => large_c _ _) rfl (Opd.func _) (Opds.cons _ _ _ _ (Opd.tmp _ _ rfl) (Opds.cons _ _ _ _ (Opd.tmp _ _ rfl) Opds.nil))) ?_
  refine Run.nil (FinR.mk ?_)
  refine nK ?_
  refine n_cond _ rfl (fun hb => ?_) (fun hb => ?_)
  · refine nK ?_
    refine s_reg rfl ?_
    refine Run.pure (dd := some 12) rfl rfl (op_call_pure (fun _ => awake_c) rfl (Opd.func _) Opds.nil) ?_
    first | refine Run.pure (dd := some 6) rfl rfl (op_assign rfl (Opd.tmp _ _ rfl)) ?_ | refine Run.pure (dd := some 6) rfl rfl (op_junk (.inr rfl)) ?_
    refine Run.nil (FinR.mk ?_)
    refine nK ?_
    (first | exact s_o1 hC rfl tV | exact s_o2 hC rfl tV tV | exact s_o3 hC rfl tV tV tV | exact s_out0 hC rfl | exact s_outO hC rfl rfl rfl)
  · have h1 : a.length ≤ 60 := by simp at hb; omega
    have h2 : b.length ≤ 60 := by simp at hb; omega
    obtain ⟨l1, l2, l3⟩ := sets_len ha hb0 h1 h2
    obtain ⟨a1, a2, a3, a4⟩ := spans_spec ha
    obtain ⟨b1, b2, b3, b4⟩ := spans_spec hb0
    obtain ⟨u1, u2, u3, u4⟩ := spans_spec (l := a ++ b) (fun p hp => (List.mem_append.1 hp).elim (ha p) (hb0 p))
    obtain ⟨d1, d2, d3⟩ := comp_spec (spansOf b) 0 b1 b2 (Nat.zero_le _) (fun s _ => Nat.zero_le _)
    obtain ⟨i1, i2, i3, i4⟩ := canon_spec (meetS_ok (b := spansOf b) a2)
    obtain ⟨j1, j2, j3, j4⟩ := canon_spec (meetS_ok (b := compS 0 (spansOf b)) a2)
    have hp := prefs_len (spansOf a)
    have eN : (prefsF (spansOf a)).any (containsB · x) = a.any (containsB · x) := by
      rw [Bool.eq_iff_iff, prefs_any a2, a3, any_contains]
    have eU : (prefsF (spansOf (a ++ b))).any (containsB · x) = (a.any (containsB · x) || b.any (containsB · x)) := by
      rw [Bool.eq_iff_iff, prefs_any u2, u3, ← any_contains, List.any_append]
    have eI : (prefsF (interS (spansOf a) (spansOf b))).any (containsB · x) = (a.any (containsB · x) && b.any (containsB · x)) := by
      rw [Bool.eq_iff_iff, prefs_any (l := interS (spansOf a) (spansOf b)) i2]
      show memS (canonOf _) x ↔ _
      rw [i3, memS_meetS, a3, b3, Bool.and_eq_true, any_contains, any_contains]
    have eD : (prefsF (interS (spansOf a) (compS 0 (spansOf b)))).any (containsB · x) = (a.any (containsB · x) && !b.any (containsB · x)) := by
      rw [Bool.eq_iff_iff, prefs_any (l := interS (spansOf a) (compS 0 (spansOf b))) j2]
      show memS (canonOf _) x ↔ _
      rw [j3, memS_meetS, a3, d3, b3, Bool.and_eq_true, any_contains, Bool.not_eq_true', Bool.eq_false_iff, ne_eq, any_contains]
      constructor
      · rintro ⟨h1, _, _, h2⟩; exact ⟨h1, h2⟩
      · rintro ⟨h1, h2⟩; exact ⟨h1, Nat.zero_le _, hx, h2⟩
    refine nK ?_
    refine s_reg rfl ?_
    first | refine Run.pure (dd := some 13) rfl rfl (op_move rfl (Opd.tmp _ _ rfl)) ?_ | refine Run.pure (dd := some 13) rfl rfl (op_junk (.inl rfl)) ?_
    first | refine Run.pure (dd := some 14) rfl rfl (op_move rfl (Opd.tmp _ _ rfl)) ?_ | refine Run.pure (dd := some 14) rfl rfl (op_junk (.inl rfl)) ?_
    refine Run.pure (dd := some 15) rfl rfl (op_call_pure (fun _ => chas_c _ _ (by assumption) (by assumption) (by omega)) rfl (Opd.func _) (Opds.cons _ _ _ _ (Opd.tmp _ _ rfl) (Opds.cons _ _ _ _ (Opd.tmp _ _ rfl) Opds.nil))) ?_
    first | refine Run.pure (dd := some 16) rfl rfl (op_move rfl (Opd.tmp _ _ rfl)) ?_ | refine Run.pure (dd := some 16) rfl rfl (op_junk (.inl rfl)) ?_
    first | refine Run.pure (dd := some 17) rfl rfl (op_move rfl (Opd.tmp _ _ rfl)) ?_ | refine Run.pure (dd := some 17) rfl rfl (op_junk (.inl rfl)) ?_
    refine Run.pure (dd := some 18) rfl rfl (op_call_pure (fun _ => chas_c _ _ (by assumption) (by assumption) (by omega)) rfl (Opd.func _) (Opds.cons _ _ _ _ (Opd.tmp _ _ rfl) (Opds.cons _ _ _ _ (Opd.tmp _ _ rfl) Opds.nil))) ?_
    first | refine Run.pure (dd := some 7) rfl rfl (op_assign rfl (Opd.tmp _ _ rfl)) ?_ | refine Run.pure (dd := some 7) rfl rfl (op_junk (.inr rfl)) ?_
    first | refine Run.pure (dd := some 8) rfl rfl (op_assign rfl (Opd.tmp _ _ rfl)) ?_ | refine Run.pure (dd := some 8) rfl rfl (op_junk (.inr rfl)) ?_
    refine Run.nil (FinR.mk ?_)
    refine nK ?_
    refine s_reg rfl ?_
    first | refine Run.pure (dd := some 19) rfl rfl (op_move rfl (Opd.tmp _ _ rfl)) ?_ | refine Run.pure (dd := some 19) rfl rfl (op_junk (.inl rfl)) ?_
    first | refine Run.pure (dd := some 20) rfl rfl (op_move rfl (Opd.tmp _ _ rfl)) ?_ | refine Run.pure (dd := some 20) rfl rfl (op_junk (.inl rfl)) ?_
    first | refine Run.pure (dd := some 21) rfl rfl (op_move rfl (Opd.tmp _ _ rfl)) ?_ | refine Run.pure (dd := some 21) rfl rfl (op_junk (.inl rfl)) ?_
    refine Run.pure (dd := some 22) rfl rfl (op_call_pure (fun _ => rhas_c _ _ (by assumption) (by assumption) (by omega)) rfl (Opd.func _) (Opds.cons _ _ _ _ (Opd.tmp _ _ rfl) (Opds.cons _ _ _ _ (Opd.tmp _ _ rfl) Opds.nil))) ?_
    refine Run.pure (dd := some 23) rfl rfl (op_neqB rfl (Opd.tmp _ _ rfl) (Opd.tmp _ _ rfl)) ?_
    first | refine Run.pure (dd := some 24) rfl rfl (op_move rfl (Opd.tmp _ _ rfl)) ?_ | refine Run.pure (dd := some 24) rfl rfl (op_junk (.inl rfl)) ?_
    first | refine Run.pureG (dd := some 25) rfl rfl rfl tG (op_move rfl (Opd.tmp _ _ rfl)) ?_ | refine Run.pureG (dd := some 25) rfl rfl rfl tG (op_junk (.inl rfl)) ?_
    refine Run.pureG (dd := some 26) rfl rfl rfl tG (op_call_pure (fun _ => cnormal_c _ (by assumption) (by omega)) rfl (Opd.func _) (Opds.cons _ _ _ _ (Opd.topt _ _ _ rfl tO) Opds.nil)) ?_
    first | refine Run.pureG (dd := some 27) rfl rfl rfl tG (op_move rfl (Opd.tmp _ _ rfl)) ?_ | refine Run.pureG (dd := some 27) rfl rfl rfl tG (op_junk (.inl rfl)) ?_
    refine Run.pureG (dd := some 28) rfl rfl rfl tG (op_call_pure (fun _ => chas_c _ _ (by assumption) (by assumption) (by omega)) rfl (Opd.func _) (Opds.cons _ _ _ _ (Opd.topt _ _ _ rfl tO) (Opds.cons _ _ _ _ (Opd.topt _ _ _ rfl tO) Opds.nil))) ?_
    first | refine Run.pureG (dd := some 29) rfl rfl rfl tG (op_move rfl (Opd.tmp _ _ rfl)) ?_ | refine Run.pureG (dd := some 29) rfl rfl rfl tG (op_junk (.inl rfl)) ?_
    refine Run.pureG (dd := some 30) rfl rfl rfl tG (op_neqB rfl (Opd.topt _ _ _ rfl tO) (Opd.topt _ _ _ rfl tO)) ?_
    refine Run.pure (dd := some 31) rfl rfl (op_pick_or rfl (Opd.tmp _ _ rfl) (Opd.topt _ _ _ rfl tO)) ?_
    refine Run.nil (FinR.mk ?_)
    refine nK ?_
    refine n_cond _ rfl (fun hb => ?_) (fun hb => ?_)
    · exfalso
      simp [eN] at hb
    · refine nK ?_
      refine s_reg rfl ?_
      refine Run.pure (dd := some 32) rfl rfl (op_call_pure (fun _ => awake_c) rfl (Opd.func _) Opds.nil) ?_
      first | refine Run.pure (dd := some 33) rfl rfl (op_move rfl (Opd.tmp _ _ rfl)) ?_ | refine Run.pure (dd := some 33) rfl rfl (op_junk (.inl rfl)) ?_
      first | refine Run.pureG (dd := some 34) rfl rfl rfl tG (op_move rfl (Opd.tmp _ _ rfl)) ?_ | refine Run.pureG (dd := some 34) rfl rfl rfl tG (op_junk (.inl rfl)) ?_
      first | refine Run.pureG (dd := some 35) rfl rfl rfl tG (op_move rfl (Opd.tmp _ _ rfl)) ?_ | refine Run.pureG (dd := some 35) rfl rfl rfl tG (op_junk (.inl rfl)) ?_
      refine Run.pureG (dd := some 36) rfl rfl rfl tG (op_call_pure (fun _ => cunion_c _ _ (by assumption) (by assumption) (by omega)) rfl (Opd.func _) (Opds.cons _ _ _ _ (Opd.topt _ _ _ rfl tO) (Opds.cons _ _ _ _ (Opd.topt _ _ _ rfl tO) Opds.nil))) ?_
      first | refine Run.pureG (dd := some 37) rfl rfl rfl tG (op_move rfl (Opd.tmp _ _ rfl)) ?_ | refine Run.pureG (dd := some 37) rfl rfl rfl tG (op_junk (.inl rfl)) ?_
      refine Run.pureG (dd := some 38) rfl rfl rfl tG (op_call_pure (fun _ => chas_c _ _ (by assumption) (by assumption) (by omega)) rfl (Opd.func _) (Opds.cons _ _ _ _ (Opd.topt _ _ _ rfl tO) (Opds.cons _ _ _ _ (Opd.topt _ _ _ rfl tO) Opds.nil))) ?_
      first | refine Run.pureG (dd := some 39) rfl rfl rfl tG (op_move rfl (Opd.tmp _ _ rfl)) ?_ | refine Run.pureG (dd := some 39) rfl rfl rfl tG (op_junk (.inl rfl)) ?_
      first | refine Run.pureG (dd := some 40) rfl rfl rfl tG (op_move rfl (Opd.topt _ _ _ rfl tO)) ?_ | refine Run.pureG (dd := some 40) rfl rfl rfl tG (op_junk (.inl rfl)) ?_
      first | refine Run.pureG (dd := some 41) rfl rfl rfl tG (op_move rfl (Opd.tmp _ _ rfl)) ?_ | refine Run.pureG (dd := some 41) rfl rfl rfl tG (op_junk (.inl rfl)) ?_
      refine Run.pureG (dd := some 42) rfl rfl rfl tG (op_pick_or rfl (Opd.topt _ _ _ rfl tO) (Opd.topt _ _ _ rfl tO)) ?_
      refine Run.pureG (dd := some 43) rfl rfl rfl tG (op_eqlB rfl (Opd.topt _ _ _ rfl tO) (Opd.topt _ _ _ rfl tO)) ?_
      refine Run.pure (dd := some 44) rfl rfl (op_pick_and rfl (Opd.tmp _ _ rfl) (Opd.topt _ _ _ rfl tO)) ?_
      first | refine Run.pure (dd := some 45) rfl rfl (op_move rfl (Opd.tmp _ _ rfl)) ?_ | refine Run.pure (dd := some 45) rfl rfl (op_junk (.inl rfl)) ?_
      first | refine Run.pureG (dd := some 46) rfl rfl rfl tG (op_move rfl (Opd.tmp _ _ rfl)) ?_ | refine Run.pureG (dd := some 46) rfl rfl rfl tG (op_junk (.inl rfl)) ?_
      first | refine Run.pureG (dd := some 47) rfl rfl rfl tG (op_move rfl (Opd.tmp _ _ rfl)) ?_ | refine Run.pureG (dd := some 47) rfl rfl rfl tG (op_junk (.inl rfl)) ?_
      refine Run.pureG (dd := some 48) rfl rfl rfl tG (op_call_pure (fun _ => cinter_c _ _ (by assumption) (by assumption) (by omega) (by omega)) rfl (Opd.func _) (Opds.cons _ _ _ _ (Opd.topt _ _ _ rfl tO) (Opds.cons _ _ _ _ (Opd.topt _ _ _ rfl tO) Opds.nil))) ?_
      first | refine Run.pureG (dd := some 49) rfl rfl rfl tG (op_move rfl (Opd.tmp _ _ rfl)) ?_ | refine Run.pureG (dd := some 49) rfl rfl rfl tG (op_junk (.inl rfl)) ?_
      refine Run.pureG (dd := some 50) rfl rfl rfl tG (op_call_pure (fun _ => chas_c _ _ (by assumption) (by assumption) (by omega)) rfl (Opd.func _) (Opds.cons _ _ _ _ (Opd.topt _ _ _ rfl tO) (Opds.cons _ _ _ _ (Opd.topt _ _ _ rfl tO) Opds.nil))) ?_
      first | refine Run.pureG (dd := some 51) rfl rfl rfl tG (op_move rfl (Opd.tmp _ _ rfl)) ?_ | refine Run.pureG (dd := some 51) rfl rfl rfl tG (op_junk (.inl rfl)) ?_
      first | refine Run.pureG (dd := some 52) rfl rfl rfl tG (op_move rfl (Opd.topt _ _ _ rfl tO)) ?_ | refine Run.pureG (dd := some 52) rfl rfl rfl tG (op_junk (.inl rfl)) ?_
      first | refine Run.pureG (dd := some 53) rfl rfl rfl tG (op_move rfl (Opd.tmp _ _ rfl)) ?_ | refine Run.pureG (dd := some 53) rfl rfl rfl tG (op_junk (.inl rfl)) ?_
      refine Run.pureG (dd := some 54) rfl rfl rfl tG (op_pick_and rfl (Opd.topt _ _ _ rfl tO) (Opd.topt _ _ _ rfl tO)) ?_
      refine Run.pureG (dd := some 55) rfl rfl rfl tG (op_eqlB rfl (Opd.topt _ _ _ rfl tO) (Opd.topt _ _ _ rfl tO)) ?_
      refine Run.pure (dd := some 56) rfl rfl (op_pick_and rfl (Opd.tmp _ _ rfl) (Opd.topt _ _ _ rfl tO)) ?_
      first | refine Run.pure (dd := some 57) rfl rfl (op_move rfl (Opd.tmp _ _ rfl)) ?_ | refine Run.pure (dd := some 57) rfl rfl (op_junk (.inl rfl)) ?_
      first | refine Run.pureG (dd := some 58) rfl rfl rfl tG (op_move rfl (Opd.tmp _ _ rfl)) ?_ | refine Run.pureG (dd := some 58) rfl rfl rfl tG (op_junk (.inl rfl)) ?_
      first | refine Run.pureG (dd := some 59) rfl rfl rfl tG (op_move rfl (Opd.tmp _ _ rfl)) ?_ | refine Run.pureG (dd := some 59) rfl rfl rfl tG (op_junk (.inl rfl)) ?_
      refine Run.pureG (dd := some 60) rfl rfl rfl tG (op_call_pure (fun _ => csub_c _ _ (by assumption) (by assumption) (by omega) (by omega)) rfl (Opd.func _) (Opds.cons _ _ _ _ (Opd.topt _ _ _ rfl tO) (Opds.cons _ _ _ _ (Opd.topt _ _ _ rfl tO) Opds.nil))) ?_
      first | refine Run.pureG (dd := some 61) rfl rfl rfl tG (op_move rfl (Opd.tmp _ _ rfl)) ?_ | refine Run.pureG (dd := some 61) rfl rfl rfl tG (op_junk (.inl rfl)) ?_
      refine Run.pureG (dd := some 62) rfl rfl rfl tG (op_call_pure (fun _ => chas_c _ _ (by assumption) (by assumption) (by omega)) rfl (Opd.func _) (Opds.cons _ _ _ _ (Opd.topt _ _ _ rfl tO) (Opds.cons _ _ _ _ (Opd.topt _ _ _ rfl tO) Opds.nil))) ?_
      first | refine Run.pureG (dd := some 63) rfl rfl rfl tG (op_move rfl (Opd.tmp _ _ rfl)) ?_ | refine Run.pureG (dd := some 63) rfl rfl rfl tG (op_junk (.inl rfl)) ?_
      first | refine Run.pureG (dd := some 64) rfl rfl rfl tG (op_move rfl (Opd.topt _ _ _ rfl tO)) ?_ | refine Run.pureG (dd := some 64) rfl rfl rfl tG (op_junk (.inl rfl)) ?_
      first | refine Run.pureG (dd := some 65) rfl rfl rfl tG (op_move rfl (Opd.tmp _ _ rfl)) ?_ | refine Run.pureG (dd := some 65) rfl rfl rfl tG (op_junk (.inl rfl)) ?_
      refine Run.pureG (dd := some 66) rfl rfl rfl tG (op_not rfl (Opd.topt _ _ _ rfl tO)) ?_
      refine Run.pureG (dd := some 67) rfl rfl rfl tG (op_pick_and rfl (Opd.topt _ _ _ rfl tO) (Opd.topt _ _ _ rfl tO)) ?_
      refine Run.pureG (dd := some 68) rfl rfl rfl tG (op_eqlB rfl (Opd.topt _ _ _ rfl tO) (Opd.topt _ _ _ rfl tO)) ?_
      refine Run.pure (dd := some 69) rfl rfl (op_pick_and rfl (Opd.tmp _ _ rfl) (Opd.topt _ _ _ rfl tO)) ?_
      first | refine Run.pure (dd := some 6) rfl rfl (op_assign rfl (Opd.tmp _ _ rfl)) ?_ | refine Run.pure (dd := some 6) rfl rfl (op_junk (.inr rfl)) ?_
      refine Run.nil (FinR.mk ?_)
      refine nK ?_
      refine s_oB hC rfl rfl ?_
      simp [eU, eI, eD]
end Go.Proofs.Ytdebjffddkgfbaa
