/- A part of the proof: SRT, SRI0, GP3, I4, LayI, I5, I6, GP4, I7, GP5, GP6, GP7, I12, PL, S0, RP1, RP2, RP3, RP4, RP5, IN1, AP1, AP2, AP3, AP4, AP5, AP6, AP7, AP8, HP1, HP2, HP3, HP4, HP5, HP6, HP7, GP8, GP9, GP10, HP8, HP9, HP10, HP11, HP12, IN2. -/
import Derived.Test.YtoeckbdgemnngaaGreatZC
import Derived.Shelf.SlSortCmp.NoneTotal
import Derived.Shelf.SlLaysF0
import Derived.Ground.SlsfProg
set_option linter.all false
/- The kit's contract of slices.SortFunc, turned into one of the engine's. -/
namespace Go.RT
open Go Go.Proofs Go.Sort Go.Shelf
set_option linter.all false
theorem Mem.reheap {C : Cx} {H H' : Hp} {nx : Nat} {S : Nat → Prop} {m : Ids} {w : World} (k1 : Mem C H nx S m w) (hh : ∀ id, hlook H' id = hlook H id) : Mem C H' nx S m w :=
  ⟨k1.os, k1.tape, k1.output, k1.fz, k1.size, k1.frame, k1.le, k1.sub, k1.n0, fun id o h => k1.objs id o ((hh id).symm.trans h), fun id o b h => k1.blk id o b ((hh id).symm.trans h), fun a b o1 o2 bb h1 h2 => k1.inj a b o1 o2 bb ((hh a).symm.trans h1) ((hh b).symm.trans h2), k1.stab, k1.fresh, k1.nkeep (Le.refl _ _ _) (Nat.le_refl _) (fun _ _ _ _ _ _ h => h.of fun o h => (hh _).symm.trans h) (fun _ _ _ _ _ _ _ c e _ _ _ k2 k3 => ⟨c, e, k2, k3⟩) (fun b' _ h2 h3 => ⟨rfl, h2, fun id2 o2 h => h3 _ _ ((hh id2).symm.trans h)⟩)⟩
def grown (w : World) (os : Array Obj) (q : Nat) : World := { w with heap := w.heap ++ os, drawn := w.drawn + q }
theorem grown_old (w : World) (os : Array Obj) (q : Nat) {b : Nat} (hb : b < w.heap.size) : (grown w os q).heap[b]? = w.heap[b]? := by simp [grown, Array.getElem?_append, hb]
theorem Mem.grow {C : Cx} {H : Hp} {nx : Nat} {S : Nat → Prop} {m : Ids} {w : World} (hm : Mem C H nx S m w) (os : Array Obj) (q : Nat) : Mem C H nx S m (grown w os q) ∧ Le S m w S m (grown w os q) := by
  have hsz : w.heap.size ≤ (grown w os q).heap.size := by simp [grown]
  have hle : Le S m w S m (grown w os q) := by
    refine ⟨fun _ h => h, fun b hb => grown_old w os q (hm.stab b hb), fun _ _ h => h, fun b n ⟨c, e, fr, h1, h2⟩ => ⟨c, e, fr, ?_, h2⟩⟩
    rw [grown_old w os q (Array.getElem?_eq_some_iff.1 h1).1]; exact h1
  refine ⟨hm.step hle ⟨rfl, Nat.le_add_right _ _⟩ rfl rfl (fun a ha => ?_) hsz (fun b hb _ => grown_old w os q (Nat.lt_of_lt_of_le hb hm.size)) (fun b hb => .inl hb) (fun id o ho => (hm.objs id o ho).mono hle fun b hb => grown_old w os q (hm.blk id o b ho hb).2.1)
    (fun id o b ho hb => ?_) hm.inj (fun b hb => Nat.lt_of_lt_of_le (hm.stab b hb) hsz) hm.fresh (hm.nkeep hle hsz (fun _ _ _ _ _ _ h => h) (fun id sz i j isz irows b2 c2 e2 u _ _ q2 q3 => ⟨c2, e2, (grown_old w os q (Array.getElem?_eq_some_iff.1 q2).1).trans q2, q3⟩) (fun b' h1 h2 h3 => ⟨grown_old w os q h1, h2, h3⟩)), hle⟩
  · simp only [World.frozen?, grown_old w os q ha]
  · obtain ⟨h1, h2, h3⟩ := hm.blk id o b ho hb
    exact ⟨h1, Nat.lt_of_lt_of_le h2 hsz, h3⟩
theorem mapBlock_setRow {w : World} {b : Nat} {c : Array Value} {e : TypeId} {fr : Nat × Nat} (f : Array Value → Array Value) (hc : w.heap[b]? = some (.cells c e fr)) : mapBlock w b f = w.setRow b (f c) := by
  unfold mapBlock World.setRow
  congr 1
  apply Array.ext_getElem?
  intro i
  simp only [Array.getElem?_modify]
  by_cases h : b = i
  · subst h
    simp [hc, onCells]
  · simp [h]
/-- a run that owns nothing: what it leaves is the world it found, grown -/
theorem Mem.is_grown {C : Cx} {nx : Nat} {S : Nat → Prop} {m : Ids} {w : World} (hm : Mem C [] nx S m w) (ho : ∀ b, ¬ C.own0 b) : ∃ q os, w = grown C.w0 os q := by
  refine ⟨w.drawn - C.w0.drawn, w.heap.extract C.w0.heap.size w.heap.size, ?_⟩
  have h1 : w.heap = C.w0.heap ++ w.heap.extract C.w0.heap.size w.heap.size := by
    apply Array.ext_getElem?
    intro i
    by_cases hi : i < C.w0.heap.size
    · rw [Array.getElem?_append_left hi]; exact hm.frame i hi (ho i)
    · rw [Array.getElem?_append_right (by omega), Array.getElem?_extract]
      have := hm.size
      by_cases h2 : i < w.heap.size
      · rw [if_pos (by simp; omega)]; congr 1; omega
      · rw [if_neg (by simp; omega)]; exact Array.getElem?_eq_none (by omega)
  have h2 : w.drawn = C.w0.drawn + (w.drawn - C.w0.drawn) := by have := hm.os.2; omega
  obtain ⟨heap, tape, drawn, os, output⟩ := w
  unfold grown
  simp only at h1 h2
  have e1 := hm.tape; have e2 := hm.os.1; have e3 := hm.output
  simp only at e1 e2 e3
  subst e1 e2 e3
  simp only [World.mk.injEq, true_and, and_true]
  exact ⟨h1, h2⟩
/-- what slices.SortFunc leaves -/
def sortBy {β : Type} [Inhabited β] (cf : β → β → Int) (l : List β) : List β := (pdq (ltOf cf) l.toArray 0 l.length (Lib.bitLen l.length) true true).toList
theorem sortBy_spec {β : Type} [Inhabited β] (cf : β → β → Int) (hO : SWO (ltOf cf)) (l : List β) : (sortBy cf l).Perm l ∧ (sortBy cf l).length = l.length ∧ ∀ (i j : Nat) (x y : β), i < j → (sortBy cf l)[i]? = some x → (sortBy cf l)[j]? = some y → ¬ cf y x < 0 := by
  have h := pdq_sorts (ltOf cf) hO l.toArray 0 l.length (Lib.bitLen l.length) true true (Nat.zero_le _) (by simp) (Or.inl rfl)
  obtain ⟨⟨p1, p2, p3⟩, p4⟩ := h
  have e : (sortBy cf l).length = l.length := by simpa [sortBy] using p1
  refine ⟨?_, e, fun i j x y hij hx hy => ?_⟩
  · have : ∀ (a : Array β) n, a.size = n → a.extract 0 n = a := fun a n hn => by subst hn; simp
    rw [this _ _ (by simpa using p1), this _ _ (by simp)] at p3
    simpa [sortBy] using p3
  · have hj : j < l.length := by rw [← e]; exact (List.getElem?_eq_some_iff.1 hy).1
    have hj' : j < (pdq (ltOf cf) l.toArray 0 l.length (Lib.bitLen l.length) true true).size := by rw [p1]; simpa using hj
    have := p4 i j (Nat.zero_le _) hij hj
    rw [getElem!_pos _ j hj', getElem!_pos _ i (by omega)] at this
    simp only [sortBy, Array.getElem?_toList] at hx hy
    rw [Array.getElem?_eq_getElem (by omega)] at hx hy
    cases hx; cases hy
    simpa [ltOf] using this
theorem cells_of_rows {w : World} {S : Nat → Prop} {c : Array Value} {k : Nat} {β : Type} [Inhabited β] {ev : β → List Value} (hk0 : 0 < k) (hlen : ∀ x, (ev x).length = k) {l : List β} (h : RowsRep (FRep w S) c k (l.map fun x => (ev x).map FV.lit)) :
    l.length * k ≤ c.size ∧ ∀ j, j < l.length * k → c[j]? = some (flatK ev k l.toArray)[j]! := by
  refine ⟨by simpa using h.1, fun j hj => ?_⟩
  have hd : j / k < l.length := Nat.div_lt_of_lt_mul (by rwa [Nat.mul_comm] at hj)
  have hm := Nat.mod_lt j hk0
  rw [get_flatK _ _ _ _ (by simpa using hj)]
  have hx : (l.map fun x => (ev x).map FV.lit)[j / k]? = some ((ev l[j / k]).map FV.lit) := by simp [hd]
  have hlk : j % k < (ev l[j / k]).length := by rw [hlen]; exact hm
  obtain ⟨u, hu, _, hr⟩ := h.2.2 (j / k) (j % k) _ (.lit (ev l[j / k])[j % k]) hx (by simp [hlk])
  have e : j / k * k + j % k = j := by rw [Nat.mul_comm]; exact Nat.div_add_mod j k
  rw [e] at hu
  rw [hu]
  cases hr
  rw [getElem!_pos _ (j / k) (by simpa using hd), getElem!_pos _ (j % k) (by simpa using hlk)]
  simp
variable {P : Program} {ρ : Ren}
theorem cmp_lays {g k : Nat} {β : Type} [Inhabited β] {ev : β → List Value} (h1 : ∀ x, ∀ v ∈ ev x, v.oneCell' = true) {cf : β → β → Int} (hc : ∀ x y, Pure P g [.agg ((ev x).map .lit), .agg ((ev y).map .lit)] (If .i64 (cf x y))) (blk off size : Nat) (w : World) : CmpLays P g #[] ev k cf blk off size w := by
  intro m os dk _ x y
  generalize sortWorldK ev k w blk off m dk os = W
  let C : Cx := ⟨W, fun _ => False, fun _ => False, fun _ => none, 0, []⟩
  have hm : Mem C [] 0 C.S0 C.m0 C.w0 := ⟨⟨rfl, Nat.le_refl _⟩, rfl, rfl, fun _ _ => rfl, Nat.le_refl _, fun _ _ _ => rfl, Le.refl _ _ _, fun b h => .inl h, fun i x hx => (by cases hx), fun i o h => (by cases h), fun i o b h => (by cases h), fun i j o1 o2 b h => (by cases h), fun b hb => hb.elim, fun _ _ => rfl, nst_nil⟩
  have ag : ∀ z, FRep W (fun _ => False) (.agg (ev z).toArray) (.agg ((ev z).map .lit)) := fun z => by
    refine .agg _ _ (by simp) (fun i c f hc hf => ?_) (fun i c hc => ?_)
    · simp only [List.getElem?_toArray] at hc
      rw [List.getElem?_map, hc] at hf
      cases hf; exact .lit _
    · simp only [List.getElem?_toArray] at hc
      exact h1 z c (List.mem_of_getElem? hc)
  have := (hc x y).run C [.agg (ev x).toArray, .agg (ev y).toArray] rfl hm rfl (fun i v p hi hp => by
    match i with
    | 0 => simp at hi hp; subst hi; subst hp; exact .fz _ _ (ag x)
    | 1 => simp at hi hp; subst hi; subst hp; exact .fz _ _ (ag y)
    | i + 2 => simp at hi)
  have h2 : Calls P g (#[.agg (ev x).toArray, .agg (ev y).toArray] ++ #[]) W (fun e w' => ∃ v S' m', e = .returned v ∧ Mem C [] 0 S' m' w' ∧ Rep w' S' m' v (.fz (If .i64 (cf x y)))) := by simpa using this
  refine h2.mono fun e w' ⟨v, S', m', he, hm', hr⟩ => ?_
  obtain ⟨q, os', hw⟩ := hm'.is_grown (fun b h => h)
  refine ⟨by rw [he]; cases hr with | fz _ _ h => cases h; rfl, q, os', hw⟩
theorem sort_meets (L : SlLaysF0.n6 P ρ) {k : Nat} (hk0 : 0 < k) (aE : ∀ w, (isAgg (ρ.t 24)).run P w = .ok true w) (zE : ∀ w, (Go.sizeOf (ρ.t 24)).run P w = .ok k w) {β : Type} [Inhabited β] {ev : β → List Value} (hlen : ∀ x, (ev x).length = k) (h1 : ∀ x, ∀ v ∈ ev x, v.oneCell' = true) {cf : β → β → Int} (hO : SWO (ltOf cf)) {g : Nat} (hg : ∀ args w, (callFunc g args).run P w = .ok (.enter g args) w)
    (hc : ∀ x y, Pure P g [.agg ((ev x).map .lit), .agg ((ev y).map .lit)] (If .i64 (cf x y))) {l : List β} (hl : l.length < 4611686018427387904) :
    Meets P (ρ.f 6) [.sl 0 k 0 l.length, .clo g [] []] 1 [(0, some (.flat k (l.map fun x => (ev x).map .lit)))] (.fz (.tup [])) [(0, some (.flat k ((sortBy cf l).map fun x => (ev x).map .lit)))] 1 := by
  refine ⟨fun C vs hn hm hlv hr => ?_⟩
  have tupR : ∀ w' S' m', Rep w' S' m' (.tuple #[]) (.fz (.tup [])) := fun w' S' m' => .fz _ _ (.tup #[] [] rfl (fun i c f hc => by simp at hc))
  match vs, hlv, hr with
  | [v0, v1], _, hr =>
  have r0 := hr 0 v0 _ rfl rfl
  have r1 := hr 1 v1 _ rfl rfl
  have ho := hm.objs 0 _ rfl
  obtain ⟨hs1, hs2, _⟩ := sortBy_spec cf hO l
  cases r1 with
  | clo _ as' cs _ _ ha hcs _ _ =>
  have ea : as' = #[] := by simpa using ha
  have ec : cs = #[] := by simpa using hcs
  subst ea; subst ec
  generalize hll : l.length = n at r0 hl
  cases r0 with
  | sl0 =>
    have : l = [] := List.length_eq_zero_iff.1 hll
    subst this
    have e : sortBy cf ([] : List β) = [] := List.length_eq_zero_iff.1 hs2
    rw [e]
    refine (AnyF.slices_SortFunc_none L none 0 (.func (.func g) #[] #[]) C.w0).mono fun e w' ⟨he, hw⟩ => ?_
    subst hw
    exact ⟨_, _, _, he, hm, tupR _ _ _⟩
  | sl _ _ _ _ b cap h hroom hcap hmx =>
    rcases ho with ⟨h2, _⟩ | ⟨b', c, e, h2, h3, h4⟩
    · rw [h] at h2; cases h2
    · rw [h] at h2; cases h2
      obtain ⟨hsz, hcells⟩ := cells_of_rows hk0 hlen h4
      obtain ⟨hb1, hb2, hb3⟩ := hm.blk 0 _ b rfl h
      have hH : HoldsK ev k C.w0 b (0 * k) l.toArray := by
        intro j hj
        simp at hj
        refine ⟨?_, ?_⟩
        · simp only [World.cell?, h3, Nat.zero_mul, Nat.zero_add]
          simpa using hcells j hj
        · simp [World.frozen?, h3]
      have hcall := AnyQ.slices_SortFunc_eq L k aE zE ev hlen h1 cf hO g #[] b (0 * k) cap l.toArray C.w0 hg (cmp_lays h1 hc b (0 * k) l.toArray.size C.w0) hH hb2 (by simpa [hll] using hl)
      rw [show l.toArray.size = n by simpa using hll] at hcall
      refine hcall.mono fun ex w' ⟨he, q, os, hw⟩ => ?_
      subst hw
      have hls : l.toArray.size = n := by simpa using hll
      have hd : pdq (ltOf cf) l.toArray 0 n (Lib.bitLen n) true true = (sortBy cf l).toArray := by rw [← hll]; simp [sortBy]
      rw [hd]
      have hset : sortWorldK ev k C.w0 b (0 * k) q (sortBy cf l).toArray os = grown (C.w0.setRow b (putCells id 0 (flatK ev k (sortBy cf l).toArray) c)) os q := by
        unfold sortWorldK putRowK putRow
        rw [mapBlock_setRow (w := Go.Sort.ahead C.w0 q) (b := b) (c := c) (e := e) (fr := (0, 0)) _ h3, Nat.zero_mul]
        rfl
      rw [hset]
      have hps : (putCells id 0 (flatK ev k (sortBy cf l).toArray) c).size = c.size := by simp [putCells]
      have hrr : ∀ w' : World, RowsRep (FRep w' C.S0) (putCells id 0 (flatK ev k (sortBy cf l).toArray) c) k ((sortBy cf l).map fun x => (ev x).map FV.lit) := fun w' => by
        refine ⟨by rw [hps]; simpa [hs2] using hsz, fun r hr => ?_, fun i j r p hi hj => ?_⟩
        · obtain ⟨x, _, rfl⟩ := List.mem_map.1 hr
          simp [hlen]
        · rw [List.getElem?_map] at hi
          obtain ⟨x, hx, rfl⟩ := Option.map_eq_some_iff.1 hi
          rw [List.getElem?_map] at hj
          obtain ⟨v, hv, rfl⟩ := Option.map_eq_some_iff.1 hj
          have hjk : j < k := by rw [← hlen x]; exact (List.getElem?_eq_some_iff.1 hv).1
          have hin : i < (sortBy cf l).length := (List.getElem?_eq_some_iff.1 hx).1
          have hlt : i * k + j < (sortBy cf l).length * k := by
            calc i * k + j < i * k + k := by omega
              _ = (i + 1) * k := by rw [Nat.add_mul, Nat.one_mul]
              _ ≤ _ := Nat.mul_le_mul_right _ hin
          have hlt2 : i * k + j < c.size := by rw [hs2] at hlt; omega
          refine ⟨v, ?_, h1 x v (List.mem_of_getElem? hv), .lit v⟩
          have e1 : (i * k + j) / k = i := by rw [Nat.mul_comm, Nat.mul_add_div hk0, Nat.div_eq_of_lt hjk, Nat.add_zero]
          have e2 : (i * k + j) % k = j := by rw [Nat.mul_comm, Nat.mul_add_mod, Nat.mod_eq_of_lt hjk]
          have e3 : (flatK ev k (sortBy cf l).toArray)[i * k + j]! = v := by
            rw [get_flatK _ _ _ _ (by simpa using hlt), e1, e2]
            rw [List.getElem?_eq_getElem hin] at hx
            cases hx
            rw [getElem!_pos _ i (by simpa using hin)]
            have hjl : j < (ev (sortBy cf l)[i]).length := by rw [hlen]; exact hjk
            rw [List.getElem?_eq_getElem hjl] at hv
            cases hv
            simp [hjl]
          unfold putCells
          rw [Array.getElem?_mapIdx, Array.getElem?_eq_getElem hlt2]
          simp only [Option.map_some, Nat.zero_le, true_and, Nat.zero_add, size_flatK, List.size_toArray, Nat.sub_zero, id]
          rw [if_pos hlt, e3]
      obtain ⟨m1, hle1⟩ := hm.write (id := 0) (o' := .flat k ((sortBy cf l).map fun x => (ev x).map .lit)) rfl h h3 hps (plain_hown (by exact trivial)) (fun w' hle hb => .inr ⟨b, _, e, h, hb, hrr w'⟩)
      refine ⟨_, _, _, he, ((m1.reheap (H' := [(0, some (.flat k ((sortBy cf l).map fun x => (ev x).map .lit)))]) (fun id => ?_)).grow os q).1, tupR _ _ _⟩
      simp only [hlook]
      cases Nat.beq 0 id <;> rfl
end Go.RT
/- Sorted lists of numbers. -/
namespace Go.RT
open Go
set_option linter.all false
def srtI (l : List Int) : List Int := l.mergeSort fun x y => decide (x ≤ y)
theorem srtI_perm (l : List Int) : (srtI l).Perm l := List.mergeSort_perm l _
theorem srtI_sorted (l : List Int) : (srtI l).Pairwise (fun x y => x ≤ y) := by
  have := List.pairwise_mergeSort (le := fun x y : Int => decide (x ≤ y)) (fun a b c h1 h2 => by simp at h1 h2 ⊢; omega) (fun a b => by simp; omega) l
  exact this.imp (fun h => by simpa using h)
end Go.RT
/- The nodes to which edges lead: sorted and cut, or put in one by one. -/
namespace Go.Pl
open Go.RT
set_option linter.all false
abbrev eqI (x y : Int) : Bool := decide (x = y)
def tosL (n : Int) (l : List Edg) : List Int := (l.filter fun e => decide (e.f = n)).map (·.t)
def Asc (l : List Int) : Prop := l.Pairwise (fun x y => x < y)
theorem Asc.ext : ∀ {a b : List Int}, Asc a → Asc b → (∀ p, p ∈ a ↔ p ∈ b) → a = b
  | [], [], _, _, _ => rfl
  | [], y :: b, _, _, h => by have := (h y).2 (List.mem_cons_self ..); cases this
  | x :: a, [], _, _, h => by have := (h x).1 (List.mem_cons_self ..); cases this
  | x :: a, y :: b, ha, hb, h => by
    obtain ⟨a1, a2⟩ := List.pairwise_cons.1 ha
    obtain ⟨b1, b2⟩ := List.pairwise_cons.1 hb
    have e : x = y := by
      rcases List.mem_cons.1 ((h x).1 (List.mem_cons_self ..)) with e | h1
      · exact e
      · rcases List.mem_cons.1 ((h y).2 (List.mem_cons_self ..)) with e | h2
        · exact e.symm
        · have := b1 x h1; have := a1 y h2; omega
    subst e
    refine congrArg _ (Asc.ext a2 b2 fun p => ?_)
    constructor
    · intro hp
      rcases List.mem_cons.1 ((h p).1 (List.mem_cons_of_mem _ hp)) with e | h1
      · subst e; have := a1 p hp; omega
      · exact h1
    · intro hp
      rcases List.mem_cons.1 ((h p).2 (List.mem_cons_of_mem _ hp)) with e | h1
      · subst e; have := b1 p hp; omega
      · exact h1
theorem ddF_asc : ∀ (l : List Int) (p : Int), (p :: l).Pairwise (fun x y => x ≤ y) → Asc (p :: ddF eqI p l) ∧ ∀ x, x ∈ p :: ddF eqI p l ↔ x ∈ p :: l
  | [], p, _ => ⟨by simp [Asc, ddF], fun x => by simp [ddF]⟩
  | y :: l, p, h => by
    obtain ⟨h1, h2⟩ := List.pairwise_cons.1 h
    obtain ⟨i1, i2⟩ := ddF_asc l y h2
    have hpy := h1 y (List.mem_cons_self ..)
    simp only [ddF]
    by_cases e : y = p
    · subst e
      simp only [eqI, decide_true, cond_true]
      refine ⟨i1, fun x => ?_⟩
      rw [i2]; simp
    · have : eqI y p = false := by simp [eqI, e]
      rw [this, cond_false]
      refine ⟨List.pairwise_cons.2 ⟨fun z hz => ?_, i1⟩, fun x => ?_⟩
      · have := (i2 z).1 hz
        rcases List.mem_cons.1 this with rfl | hz
        · omega
        · have := (List.pairwise_cons.1 h2).1 z hz; omega
      · rw [List.mem_cons, i2, List.mem_cons]; simp
theorem comp_asc {l : List Int} (h : l.Pairwise (fun x y => x ≤ y)) : Asc (compL eqI l) ∧ ∀ x, x ∈ compL eqI l ↔ x ∈ l := by
  cases l with
  | nil => exact ⟨by simp [Asc, compL], fun x => by simp [compL]⟩
  | cons p l => exact ddF_asc l p h
def nextI (n : Int) (l : List Edg) : List Int := compL eqI (srtI (tosL n l))
theorem nextI_spec (n : Int) (l : List Edg) : Asc (nextI n l) ∧ ∀ x, x ∈ nextI n l ↔ ∃ e ∈ l, e.f = n ∧ e.t = x := by
  obtain ⟨h1, h2⟩ := comp_asc (srtI_sorted (tosL n l))
  refine ⟨h1, fun x => ?_⟩
  show x ∈ compL eqI _ ↔ _
  rw [h2, (srtI_perm _).mem_iff]
  simp [tosL, and_assoc]
end Go.Pl
namespace Go.Proofs.YtoeckbdgemnngaaGreat
open Go Go.RT Go.Proofs Go.Pl
set_option linter.all false
theorem kept_row {α β : Type} (f : α → β) (c l : List α) (j : Nat) (h : c.length ≤ j) (hj : j < l.length) : ((c ++ l.drop c.length).map f)[j]? = some (f l[j]) := by
 rw [List.getElem?_map, kept_get c l j h, List.getElem?_eq_getElem hj]; rfl
end Go.Proofs.YtoeckbdgemnngaaGreat
/- Contracts of the library, laid at this translation. Written by the kit's printer. -/
namespace Go.Proofs.YtoeckbdgemnngaaGreat
open Go Go.Proofs Go.Shelf
def Tryz.sortEdge_ren : Go.Shelf.Ren := ⟨fun | 6 => 112 | 15 => 32 | 14 => 145 | 28 => 60 | 29 => 61 | 20 => 163 | 21 => 164 | 22 => 165 | 23 => 166 | 24 => 167 | 25 => 168 | 26 => 169 | 27 => 170 | 46 => 181 | 47 => 98 | 48 => 99 | 49 => 182 | 50 => 183 | 57 => 188 | n => n, fun | 22 => 70 | 24 => 157 | 25 => 191 | 3 => 3 | 39 => 104 | 0 => 0 | 53 => 27 | 55 => 138 | 4 => 4 | 46 => 130 | 45 => 129 | 50 => 134 | 5 => 5 | 9 => 9 | 66 => 178 | 70 => 182 | 76 => 214 | 77 => 215 | n => n, fun | n => n⟩
theorem Tryz.sortEdge : Go.Proofs.SlLaysF0.n6 Tryz.prog Tryz.sortEdge_ren := {
  mixed := by kernel_rfl
  f6 := ⟨Tryz.f112.name, by decide, Tryz.func112.trans (congrArg some (by kernel_rfl))⟩
  f14 := ⟨Tryz.f145.name, by decide, Tryz.func145.trans (congrArg some (by kernel_rfl))⟩
  f15 := Tryz.func32.trans (congrArg some (by kernel_rfl))
  f20 := ⟨Tryz.f163.name, by decide, Tryz.func163.trans (congrArg some (by kernel_rfl))⟩
  f21 := ⟨Tryz.f164.name, by decide, Tryz.func164.trans (congrArg some (by kernel_rfl))⟩
  f22 := ⟨Tryz.f165.name, by decide, Tryz.func165.trans (congrArg some (by kernel_rfl))⟩
  f23 := ⟨Tryz.f166.name, by decide, Tryz.func166.trans (congrArg some (by kernel_rfl))⟩
  f24 := ⟨Tryz.f167.name, by decide, Tryz.func167.trans (congrArg some (by kernel_rfl))⟩
  f25 := ⟨Tryz.f168.name, by decide, Tryz.func168.trans (congrArg some (by kernel_rfl))⟩
  f26 := ⟨Tryz.f169.name, by decide, Tryz.func169.trans (congrArg some (by kernel_rfl))⟩
  f27 := ⟨Tryz.f170.name, by decide, Tryz.func170.trans (congrArg some (by kernel_rfl))⟩
  f28 := Tryz.func60.trans (congrArg some (by kernel_rfl))
  f29 := Tryz.func61.trans (congrArg some (by kernel_rfl))
  f46 := ⟨Tryz.f181.name, by decide, Tryz.func181.trans (congrArg some (by kernel_rfl))⟩
  f47 := Tryz.func98.trans (congrArg some (by kernel_rfl))
  f48 := Tryz.func99.trans (congrArg some (by kernel_rfl))
  f49 := ⟨Tryz.f182.name, by decide, Tryz.func182.trans (congrArg some (by kernel_rfl))⟩
  f50 := ⟨Tryz.f183.name, by decide, Tryz.func183.trans (congrArg some (by kernel_rfl))⟩
  f57 := ⟨Tryz.f188.name, by decide, Tryz.func188.trans (congrArg some (by kernel_rfl))⟩
  t0 := Tryz.underlying0
  a0 := Tryz.isAgg0
  z0 := Tryz.sizeOf0
  v0 := Tryz.zeroValue0
  t3 := Tryz.underlying3
  a3 := Tryz.isAgg3
  z3 := Tryz.sizeOf3
  v3 := Tryz.zeroValue3
  t4 := Tryz.underlying4
  a4 := Tryz.isAgg4
  z4 := Tryz.sizeOf4
  v4 := Tryz.zeroValue4
  t5 := Tryz.underlying5
  a5 := Tryz.isAgg5
  z5 := Tryz.sizeOf5
  v5 := Tryz.zeroValue5
  t9 := Tryz.underlying9
  a9 := Tryz.isAgg9
  z9 := Tryz.sizeOf9
  v9 := Tryz.zeroValue9
  t22 := Tryz.underlying70
  a22 := Tryz.isAgg70
  z22 := Tryz.sizeOf70
  v22 := Tryz.zeroValue70
  t25 := Tryz.underlying191
  a25 := Tryz.isAgg191
  z25 := Tryz.sizeOf191
  v25 := Tryz.zeroValue191
  t39 := Tryz.underlying104
  a39 := Tryz.isAgg104
  z39 := Tryz.sizeOf104
  v39 := Tryz.zeroValue104
  t45 := Tryz.underlying129
  a45 := Tryz.isAgg129
  z45 := Tryz.sizeOf129
  v45 := Tryz.zeroValue129
  t46 := Tryz.underlying130
  a46 := Tryz.isAgg130
  z46 := Tryz.sizeOf130
  v46 := Tryz.zeroValue130
  t50 := Tryz.underlying134
  a50 := Tryz.isAgg134
  z50 := Tryz.sizeOf134
  v50 := Tryz.zeroValue134
  t53 := Tryz.underlying27
  a53 := Tryz.isAgg27
  z53 := Tryz.sizeOf27
  v53 := Tryz.zeroValue27
  t55 := Tryz.underlying138
  a55 := Tryz.isAgg138
  z55 := Tryz.sizeOf138
  v55 := Tryz.zeroValue138
  t66 := Tryz.underlying178
  a66 := Tryz.isAgg178
  z66 := Tryz.sizeOf178
  v66 := Tryz.zeroValue178
  t70 := Tryz.underlying182
  a70 := Tryz.isAgg182
  z70 := Tryz.sizeOf182
  v70 := Tryz.zeroValue182
  t76 := Tryz.underlying214
  a76 := Tryz.isAgg214
  z76 := Tryz.sizeOf214
  v76 := Tryz.zeroValue214
  t77 := Tryz.underlying215
  a77 := Tryz.isAgg215
  z77 := Tryz.sizeOf215
  v77 := Tryz.zeroValue215 }
def Tryz.sortHop_ren : Go.Shelf.Ren := ⟨fun | 6 => 13 | 15 => 32 | 14 => 31 | 28 => 60 | 29 => 61 | 20 => 52 | 21 => 53 | 22 => 54 | 23 => 55 | 24 => 56 | 25 => 57 | 26 => 58 | 27 => 59 | 46 => 97 | 47 => 98 | 48 => 99 | 49 => 100 | 50 => 101 | 57 => 137 | n => n, fun | 22 => 22 | 24 => 44 | 25 => 53 | 3 => 3 | 39 => 104 | 0 => 0 | 53 => 27 | 55 => 138 | 4 => 4 | 46 => 130 | 45 => 129 | 50 => 134 | 5 => 5 | 9 => 9 | 66 => 178 | 70 => 182 | 76 => 214 | 77 => 215 | n => n, fun | n => n⟩
theorem Tryz.sortHop : Go.Proofs.SlLaysF0.n6 Tryz.prog Tryz.sortHop_ren := {
  mixed := by kernel_rfl
  f6 := ⟨Tryz.f13.name, by decide, Tryz.func13.trans (congrArg some (by kernel_rfl))⟩
  f14 := ⟨Tryz.f31.name, by decide, Tryz.func31.trans (congrArg some (by kernel_rfl))⟩
  f15 := Tryz.func32.trans (congrArg some (by kernel_rfl))
  f20 := ⟨Tryz.f52.name, by decide, Tryz.func52.trans (congrArg some (by kernel_rfl))⟩
  f21 := ⟨Tryz.f53.name, by decide, Tryz.func53.trans (congrArg some (by kernel_rfl))⟩
  f22 := ⟨Tryz.f54.name, by decide, Tryz.func54.trans (congrArg some (by kernel_rfl))⟩
  f23 := ⟨Tryz.f55.name, by decide, Tryz.func55.trans (congrArg some (by kernel_rfl))⟩
  f24 := ⟨Tryz.f56.name, by decide, Tryz.func56.trans (congrArg some (by kernel_rfl))⟩
  f25 := ⟨Tryz.f57.name, by decide, Tryz.func57.trans (congrArg some (by kernel_rfl))⟩
  f26 := ⟨Tryz.f58.name, by decide, Tryz.func58.trans (congrArg some (by kernel_rfl))⟩
  f27 := ⟨Tryz.f59.name, by decide, Tryz.func59.trans (congrArg some (by kernel_rfl))⟩
  f28 := Tryz.func60.trans (congrArg some (by kernel_rfl))
  f29 := Tryz.func61.trans (congrArg some (by kernel_rfl))
  f46 := ⟨Tryz.f97.name, by decide, Tryz.func97.trans (congrArg some (by kernel_rfl))⟩
  f47 := Tryz.func98.trans (congrArg some (by kernel_rfl))
  f48 := Tryz.func99.trans (congrArg some (by kernel_rfl))
  f49 := ⟨Tryz.f100.name, by decide, Tryz.func100.trans (congrArg some (by kernel_rfl))⟩
  f50 := ⟨Tryz.f101.name, by decide, Tryz.func101.trans (congrArg some (by kernel_rfl))⟩
  f57 := ⟨Tryz.f137.name, by decide, Tryz.func137.trans (congrArg some (by kernel_rfl))⟩
  t0 := Tryz.underlying0
  a0 := Tryz.isAgg0
  z0 := Tryz.sizeOf0
  v0 := Tryz.zeroValue0
  t3 := Tryz.underlying3
  a3 := Tryz.isAgg3
  z3 := Tryz.sizeOf3
  v3 := Tryz.zeroValue3
  t4 := Tryz.underlying4
  a4 := Tryz.isAgg4
  z4 := Tryz.sizeOf4
  v4 := Tryz.zeroValue4
  t5 := Tryz.underlying5
  a5 := Tryz.isAgg5
  z5 := Tryz.sizeOf5
  v5 := Tryz.zeroValue5
  t9 := Tryz.underlying9
  a9 := Tryz.isAgg9
  z9 := Tryz.sizeOf9
  v9 := Tryz.zeroValue9
  t22 := Tryz.underlying22
  a22 := Tryz.isAgg22
  z22 := Tryz.sizeOf22
  v22 := Tryz.zeroValue22
  t25 := Tryz.underlying53
  a25 := Tryz.isAgg53
  z25 := Tryz.sizeOf53
  v25 := Tryz.zeroValue53
  t39 := Tryz.underlying104
  a39 := Tryz.isAgg104
  z39 := Tryz.sizeOf104
  v39 := Tryz.zeroValue104
  t45 := Tryz.underlying129
  a45 := Tryz.isAgg129
  z45 := Tryz.sizeOf129
  v45 := Tryz.zeroValue129
  t46 := Tryz.underlying130
  a46 := Tryz.isAgg130
  z46 := Tryz.sizeOf130
  v46 := Tryz.zeroValue130
  t50 := Tryz.underlying134
  a50 := Tryz.isAgg134
  z50 := Tryz.sizeOf134
  v50 := Tryz.zeroValue134
  t53 := Tryz.underlying27
  a53 := Tryz.isAgg27
  z53 := Tryz.sizeOf27
  v53 := Tryz.zeroValue27
  t55 := Tryz.underlying138
  a55 := Tryz.isAgg138
  z55 := Tryz.sizeOf138
  v55 := Tryz.zeroValue138
  t66 := Tryz.underlying178
  a66 := Tryz.isAgg178
  z66 := Tryz.sizeOf178
  v66 := Tryz.zeroValue178
  t70 := Tryz.underlying182
  a70 := Tryz.isAgg182
  z70 := Tryz.sizeOf182
  v70 := Tryz.zeroValue182
  t76 := Tryz.underlying214
  a76 := Tryz.isAgg214
  z76 := Tryz.sizeOf214
  v76 := Tryz.zeroValue214
  t77 := Tryz.underlying215
  a77 := Tryz.isAgg215
  z77 := Tryz.sizeOf215
  v77 := Tryz.zeroValue215 }
def Tryz.sortLR_ren : Go.Shelf.Ren := ⟨fun | 6 => 27 | 15 => 32 | 14 => 51 | 28 => 60 | 29 => 61 | 20 => 89 | 21 => 90 | 22 => 91 | 23 => 92 | 24 => 93 | 25 => 94 | 26 => 95 | 27 => 96 | 46 => 134 | 47 => 98 | 48 => 99 | 49 => 135 | 50 => 136 | 57 => 161 | n => n, fun | 22 => 33 | 24 => 41 | 25 => 99 | 3 => 3 | 39 => 104 | 0 => 0 | 53 => 27 | 55 => 138 | 4 => 4 | 46 => 130 | 45 => 129 | 50 => 134 | 5 => 5 | 9 => 9 | 66 => 178 | 70 => 182 | 76 => 214 | 77 => 215 | n => n, fun | n => n⟩
theorem Tryz.sortLR : Go.Proofs.SlLaysF0.n6 Tryz.prog Tryz.sortLR_ren := {
  mixed := by kernel_rfl
  f6 := ⟨Tryz.f27.name, by decide, Tryz.func27.trans (congrArg some (by kernel_rfl))⟩
  f14 := ⟨Tryz.f51.name, by decide, Tryz.func51.trans (congrArg some (by kernel_rfl))⟩
  f15 := Tryz.func32.trans (congrArg some (by kernel_rfl))
  f20 := ⟨Tryz.f89.name, by decide, Tryz.func89.trans (congrArg some (by kernel_rfl))⟩
  f21 := ⟨Tryz.f90.name, by decide, Tryz.func90.trans (congrArg some (by kernel_rfl))⟩
  f22 := ⟨Tryz.f91.name, by decide, Tryz.func91.trans (congrArg some (by kernel_rfl))⟩
  f23 := ⟨Tryz.f92.name, by decide, Tryz.func92.trans (congrArg some (by kernel_rfl))⟩
  f24 := ⟨Tryz.f93.name, by decide, Tryz.func93.trans (congrArg some (by kernel_rfl))⟩
  f25 := ⟨Tryz.f94.name, by decide, Tryz.func94.trans (congrArg some (by kernel_rfl))⟩
  f26 := ⟨Tryz.f95.name, by decide, Tryz.func95.trans (congrArg some (by kernel_rfl))⟩
  f27 := ⟨Tryz.f96.name, by decide, Tryz.func96.trans (congrArg some (by kernel_rfl))⟩
  f28 := Tryz.func60.trans (congrArg some (by kernel_rfl))
  f29 := Tryz.func61.trans (congrArg some (by kernel_rfl))
  f46 := ⟨Tryz.f134.name, by decide, Tryz.func134.trans (congrArg some (by kernel_rfl))⟩
  f47 := Tryz.func98.trans (congrArg some (by kernel_rfl))
  f48 := Tryz.func99.trans (congrArg some (by kernel_rfl))
  f49 := ⟨Tryz.f135.name, by decide, Tryz.func135.trans (congrArg some (by kernel_rfl))⟩
  f50 := ⟨Tryz.f136.name, by decide, Tryz.func136.trans (congrArg some (by kernel_rfl))⟩
  f57 := ⟨Tryz.f161.name, by decide, Tryz.func161.trans (congrArg some (by kernel_rfl))⟩
  t0 := Tryz.underlying0
  a0 := Tryz.isAgg0
  z0 := Tryz.sizeOf0
  v0 := Tryz.zeroValue0
  t3 := Tryz.underlying3
  a3 := Tryz.isAgg3
  z3 := Tryz.sizeOf3
  v3 := Tryz.zeroValue3
  t4 := Tryz.underlying4
  a4 := Tryz.isAgg4
  z4 := Tryz.sizeOf4
  v4 := Tryz.zeroValue4
  t5 := Tryz.underlying5
  a5 := Tryz.isAgg5
  z5 := Tryz.sizeOf5
  v5 := Tryz.zeroValue5
  t9 := Tryz.underlying9
  a9 := Tryz.isAgg9
  z9 := Tryz.sizeOf9
  v9 := Tryz.zeroValue9
  t22 := Tryz.underlying33
  a22 := Tryz.isAgg33
  z22 := Tryz.sizeOf33
  v22 := Tryz.zeroValue33
  t25 := Tryz.underlying99
  a25 := Tryz.isAgg99
  z25 := Tryz.sizeOf99
  v25 := Tryz.zeroValue99
  t39 := Tryz.underlying104
  a39 := Tryz.isAgg104
  z39 := Tryz.sizeOf104
  v39 := Tryz.zeroValue104
  t45 := Tryz.underlying129
  a45 := Tryz.isAgg129
  z45 := Tryz.sizeOf129
  v45 := Tryz.zeroValue129
  t46 := Tryz.underlying130
  a46 := Tryz.isAgg130
  z46 := Tryz.sizeOf130
  v46 := Tryz.zeroValue130
  t50 := Tryz.underlying134
  a50 := Tryz.isAgg134
  z50 := Tryz.sizeOf134
  v50 := Tryz.zeroValue134
  t53 := Tryz.underlying27
  a53 := Tryz.isAgg27
  z53 := Tryz.sizeOf27
  v53 := Tryz.zeroValue27
  t55 := Tryz.underlying138
  a55 := Tryz.isAgg138
  z55 := Tryz.sizeOf138
  v55 := Tryz.zeroValue138
  t66 := Tryz.underlying178
  a66 := Tryz.isAgg178
  z66 := Tryz.sizeOf178
  v66 := Tryz.zeroValue178
  t70 := Tryz.underlying182
  a70 := Tryz.isAgg182
  z70 := Tryz.sizeOf182
  v70 := Tryz.zeroValue182
  t76 := Tryz.underlying214
  a76 := Tryz.isAgg214
  z76 := Tryz.sizeOf214
  v76 := Tryz.zeroValue214
  t77 := Tryz.underlying215
  a77 := Tryz.isAgg215
  z77 := Tryz.sizeOf215
  v77 := Tryz.zeroValue215 }
open Go Go.RT Go.Proofs Go.Pl
set_option maxRecDepth 20000
set_option maxHeartbeats 4000000
theorem wHI5a {α : Prop} (h : α := by repeat (first | exact trivial | refine ⟨wS, ?_⟩ | refine ⟨ent_same rfl rfl (rfEq rfl tU) tL, ?_⟩ | refine ⟨ent_same rfl rfl (flEq rfl (by first | (simp; done) | (simp; omega) | (simp [encE, encN, encB]; done) | simp [maxC, minC])) trivial, ?_⟩)) : α := h
theorem compactF_c (l : List Edg) (hn : l.length ≤ 40000000) (gf : Nat) [FnB Tryz.prog gf] (eq : Edg → Edg → Bool) (hcl0 : ∀ x y, Pure Tryz.prog gf [.agg (encE x), .agg (encE y)] (Bf (eq x y))) : Meets Tryz.prog 115 [.sl 0 3 0 l.length, .clo gf [] []] 1 [(0, OE l)] (.fz (VE (compL eq l))) [] 1 := by
 refine Meets.intro Tryz.func115 rfl (Nat.le_of_ble_eq_true rfl) fun C hC => ?_
 simp only [List.map, argEnv, Nat.reduceAdd]
 refine nK ?_
 refine za ?_
 refine ze ?_
 refine zb ?_
 refine nK ?_
 refine za ?_
 refine zc ?_
 refine zbl ?_
 refine zbq ?_
 refine zb ?_
 refine nK ?_
 refine n_cond _ rfl (fun hb => ?_) (fun hb => ?_)
 ·have h2 : l.length < 2 := by simp at hb; omega
  have e : compL eq l = l := by
   match l, h2 with
   | [], _ => rfl
   | [x], _ => rfl
  rw [e]
  refine nK ?_
  refine za ?_
  refine zc ?_
  refine zd ?_
  refine zb ?_
  refine nK ?_
  refine Next.weakS [4] [4] (by rfl) (keepsN hC _ rfl) (G' := [(4, .fz (VE l))]) (H' := []) wF trivial rfl ?_
  exact n_out1 rfl (by rfl) rfl rfl
 have h2 : 2 ≤ l.length := by simp at hb; omega
 refine nK ?_
 refine za ?_
 refine ze ?_
 refine zb ?_
 refine nK ?_
 refine n_loop (ι := Nat) (fun k => ([(0, .sl 0 3 0 l.length), (1, .clo gf [] []), (5, IV .i64 k)], [(0, OE l)], 1)) (fun k => 1 ≤ k ∧ k ≤ l.length ∧ compL eq (l.take k) = l.take k) (fun k => l.length - k) 1 ⟨Nat.le_refl _, by omega, compL_one eq l (by omega)⟩ ?_ ?_
 ·refine Next.weakS [0] [] (by rfl) (wK hC) wG wHI5a rfl (rel_intro)
 intro k ⟨hk1, hk2, hc⟩ K hK
 refine nK ?_
 refine za ?_
 refine zc ?_
 refine zc ?_
 refine zbl ?_
 refine zn ?_
 refine zb ?_
 refine nK ?_
 refine n_cond _ rfl (fun hb => ?_) (fun hb => ?_)
 ·have hlt : k < l.length := by simp at hb; omega
  have hr1 := row_at' encE l k hlt
  have hr2 := row_at' encE l (k - 1) (by omega)
  have hst := compL_take eq l k (by omega) hlt
  refine nK ?_
  refine s_draw mixed ?_
  refine zc ?_
  refine zc ?_
  refine zc ?_
  refine rpZ 21 rfl (op_idx_sl0 k rfl (oT rfl) (oT rfl) (by intro _; constructor <;> omega)) ?_
  refine zm ?_
  refine zc ?_
  refine zc ?_
  refine zbv ?_
  refine rpZ 26 rfl (op_idx_sl0 (k - 1) rfl (oT rfl) (oT rfl) (by intro _; constructor <;> omega)) ?_
  refine zm ?_
  refine rpZ 28 rfl (op_call_pure (fun _ => hcl0 _ _) rfl (oT rfl) (oS (oT rfl) (oS (oT rfl) Opds.nil))) ?_
  refine zq ?_
  refine nK ?_
  refine n_cond _ rfl (fun hb => ?_) (fun hb => ?_)
  ·have he : eq l[k] l[k - 1] = true := hb
   rw [he, cond_true, List.append_nil, hc] at hst
   refine nK ?_
   refine za ?_
   refine zc ?_
   refine zc ?_
   refine rlZ 31 rfl (op_slice_view rfl (oT rfl) (Bnd.yes _ _ _ _ _ (oT rfl) tQ) (Bnd.no _) tT) ?_
   refine zd ?_
   refine zb ?_
   refine nK ?_
   refine za ?_
   refine ze ?_
   refine zb ?_
   refine nK ?_
   refine n_loop (ι := Nat × List Edg) (fun g => ([(0, .sl 0 3 0 l.length), (1, .clo gf [] []), (5, IV .i64 g.2.length), (6, .sl 0 3 k (l.length - k)), (7, IV .i64 g.1)], [(0, OE (g.2 ++ l.drop g.2.length))], 1)) (fun g => 1 ≤ g.1 ∧ k + g.1 ≤ l.length ∧ g.2 = compL eq (l.take (k + g.1))) (fun g => l.length - (k + g.1)) (1, l.take k) ⟨Nat.le_refl _, by dsimp only; omega, hst.symm⟩ ?_ ?_
   ·have e1 : (l.take k).length = k := by simp; omega
    simp only [e1, List.take_append_drop, Nat.zero_add]
    refine Next.weakS [0] [] (by rfl) (wK hC) wG wHI5a rfl (rel_intro)
   intro ⟨j, c⟩ ⟨hj1, hj2, hcd⟩ K2 hK2
   simp only at hj1 hj2 hcd
   dsimp only
   have hcl := compL_len_lt eq l k (by omega) hlt he (k + j) (by omega) hj2
   rw [← hcd] at hcl
   have hkl := kept_len c l (by omega)
   refine nK ?_
   refine za ?_
   refine zc ?_
   refine zc ?_
   refine zbl ?_
   refine zn ?_
   refine zb ?_
   refine nK ?_
   refine n_cond _ rfl (fun hb => ?_) (fun hb => ?_)
   ·have hjl : k + j < l.length := by simp at hb; omega
    have hst2 := compL_take eq l (k + j) (by omega) hjl
    rw [← hcd] at hst2
    have hK3 := fun c' h => hK2 (j + 1, c') ⟨by dsimp only; omega, by dsimp only; omega, h⟩ (by dsimp only; omega)
    have g1 := kept_row encE c l (k + j) (by omega) hjl
    have g2 := kept_row encE c l (k + j - 1) (by omega) (by omega)
    have g2' : ((c ++ l.drop c.length).map encE)[k + (j - 1)]? = some (encE l[k + j - 1]) := by rw [← Nat.add_sub_assoc hj1]; exact g2
    have g3 := kept_row encE c l c.length (Nat.le_refl _) (by omega)
    have hset := set_kept c l l[k + j] (by omega)
    refine nK ?_
    refine s_draw mixed ?_
    refine zc ?_
    refine zc ?_
    refine zc ?_
    refine rpZ 41 rfl (op_idx_sl j rfl (oT rfl) (oT rfl) (by intro _; constructor <;> omega)) ?_
    refine zm ?_
    refine zc ?_
    refine zc ?_
    refine zbv ?_
    refine rpZ 46 rfl (op_idx_sl (j - 1) rfl (oT rfl) (oT rfl) (by intro _; constructor <;> omega)) ?_
    refine zm ?_
    refine rpZ 48 rfl (op_call_pure (fun _ => hcl0 _ _) rfl (oT rfl) (oS (oT rfl) (oS (oT rfl) Opds.nil))) ?_
    refine zbj ?_
    refine zq ?_
    refine nK ?_
    refine n_cond _ rfl (fun hb => ?_) (fun hb => ?_)
    ·have hne : eq l[k + j] l[k + j - 1] = false := by simpa using hb
     rw [hne, cond_false] at hst2
     have hK4 := hK3 (c ++ [l[k + j]]) hst2.symm
     have e4 : (c ++ [l[k + j]]).length = c.length + 1 := by simp
     rw [← hset, e4] at hK4
     refine nK ?_
     refine za ?_
     refine zc ?_
     refine zc ?_
     refine zc ?_
     refine zc ?_
     refine rpZ 54 rfl (op_idx_sl j rfl (oT rfl) (oT rfl) (by intro _; constructor <;> omega)) ?_
     refine zm ?_
     refine rpZ 56 rfl (op_idx_sl0 c.length rfl (oT rfl) (oT rfl) (by intro _; constructor <;> omega)) ?_
     refine Run.eff (dd := none) rfl rfl (op_store_flat rfl (oT rfl) (oT rfl) tC rfl rfl g3 tS) ?_
     refine zb ?_
     refine nK ?_
     refine za ?_
     refine zc ?_
     refine zj ?_
     refine zd ?_
     refine zb ?_
     refine nK ?_
     refine za ?_
     refine zc ?_
     refine zj ?_
     refine zd ?_
     refine zb ?_
     refine nK ?_
     refine Next.weakS [0] [] (by rfl) (wK hC) wG wHI5a rfl (hK4)
    have hne : eq l[k + j] l[k + j - 1] = true := by simpa using hb
    rw [hne, cond_true, List.append_nil] at hst2
    refine nK ?_
    refine za ?_
    refine zc ?_
    refine zj ?_
    refine zd ?_
    refine zb ?_
    refine nK ?_
    refine Next.weakS [0] [] (by rfl) (wK hC) wG wHI5a rfl ((hK3 c hst2.symm))
   have hje : k + j = l.length := by simp at hb; omega
   rw [hje, List.take_length] at hcd
   rw [← hcd]
   refine nK ?_
   refine za ?_
   refine zc ?_
   refine zc ?_
   refine rlZ 61 rfl (op_slice_view rfl (oT rfl) (Bnd.yes _ _ _ _ _ (oT rfl) tQ) (Bnd.no _) (by intro _; refine ⟨rfl, ?_⟩; rw [List.length_map, hkl]; omega)) ?_
   refine Run.eff (dd := none) rfl rfl (op_clear rfl (oT rfl) rfl rfl rfl rfl (by rw [List.length_map, hkl] <;> omega)) ?_
   refine zb ?_
   refine nK ?_
   refine za ?_
   refine zc ?_
   refine zc ?_
   refine rlZ 64 rfl (op_slice_view rfl (oT rfl) (Bnd.no _) (Bnd.yes _ _ _ _ _ (oT rfl) tQ) (by intro _; refine ⟨rfl, ?_⟩; simp; try omega)) ?_
   refine zd ?_
   refine zb ?_
   refine nK ?_
   refine Next.weakS [4] [4] (by rfl) (keepsN hC _ rfl) (G' := [(4, .fz (VE c))]) (H' := []) ⟨⟨_, rfl, .inr ⟨_, rfl, .sl _ _ _ _ _ _ rfl rfl (by simp) (by simp)⟩⟩, trivial⟩ trivial rfl ?_
   exact n_out1 rfl (by rfl) rfl rfl
  have he : eq l[k] l[k - 1] = false := hb
  rw [he, cond_false, hc, ← List.take_succ_eq_append_getElem hlt] at hst
  refine nK ?_
  refine za ?_
  refine zc ?_
  refine zj ?_
  refine zd ?_
  refine zb ?_
  refine nK ?_
  refine Next.weakS [0] [] (by rfl) (wK hC) wG wHI5a rfl ((hK (k + 1) ⟨by omega, by omega, hst⟩ (by omega)))
 have hie : k = l.length := by simp at hb; omega
 rw [take_len_eq' hie] at hc
 rw [hc]
 refine nK ?_
 refine za ?_
 refine zc ?_
 refine zd ?_
 refine zb ?_
 refine nK ?_
 refine Next.weakS [4] [4] (by rfl) (keepsN hC _ rfl) (G' := [(4, .fz (VE l))]) (H' := []) wF trivial rfl ?_
 exact n_out1 rfl (by rfl) rfl rfl
open Go Go.RT Go.Proofs Go.Pl
set_option maxRecDepth 20000
set_option maxHeartbeats 4000000
theorem clone_c (l : List Edg) (hn : l.length ≤ 40000000) : Meets Tryz.prog 111 ([VE l].map PV.fz) 0 [] (.sl 0 3 0 l.length) [(0, OE l)] 1 := by
 refine Meets.intro Tryz.func111 rfl (Nat.le_of_ble_eq_true rfl) fun C hC => ?_
 simp only [List.map, argEnv, Nat.reduceAdd]
 refine nK ?_
 refine za ?_
 refine ze ?_
 refine zb ?_
 refine nK ?_
 refine za ?_
 refine zc ?_
 refine zdi ?_
 refine zb ?_
 refine nK ?_
 refine Next.abool 4 rfl (fun b hb0 => ?_)
 refine nK ?_
 refine n_cond _ rfl (fun hb => ?_) (fun hb => ?_)
 ·have he : l = [] := by have := hb0 hb; simpa using this
  subst he
  refine nK ?_
  refine za ?_
  refine ze ?_
  refine zb ?_
  refine nK ?_
  refine Next.adopt 2 3 rfl ?_
  exact wO hC
 refine nK ?_
 refine za ?_
 refine zcx ?_
 refine zc ?_
 refine zcy ?_
 refine zd ?_
 refine zb ?_
 refine nK ?_
 refine Next.weakS [2] [] (by rfl) (keeps0 hC _) (G' := [(2, .sl 0 3 0 l.length)]) (H' := [(0, OE l)]) wG (by repeat (first | exact trivial | refine ⟨wS, ?_⟩ | refine ⟨ent_same rfl rfl (rfEq rfl tU) tL, ?_⟩ | refine ⟨ent_same rfl rfl (flEq rfl (by first | (simp; done) | (simp; omega) | (simp [encE, encN, encB]; done) | simp [maxC, minC])) trivial, ?_⟩)) rfl ?_
 exact wO hC
end Go.Proofs.YtoeckbdgemnngaaGreat
/- The valid graph of edges: sorted, of several edges between the same nodes the cheapest. -/
namespace Go.Pl
open Go.RT Go.Shelf Go.Proofs
set_option linter.all false
instance : Inhabited Edg := ⟨⟨0, 0, 0⟩⟩
def ordC (a b : Edg) : Int := if ordE a b ≠ 0 then ordE a b else cmpI a.c b.c
def eqK (a b : Edg) : Bool := decide (ordE a b = 0)
theorem cmpI_neg (a b : Int) : cmpI a b < 0 ↔ a < b := by unfold cmpI; split <;> (try split) <;> omega
theorem cmpI_zero (a b : Int) : cmpI a b = 0 ↔ a = b := by unfold cmpI; split <;> (try split) <;> omega
theorem ordE_neg (a b : Edg) : ordE a b < 0 ↔ a.f < b.f ∨ a.f = b.f ∧ a.t < b.t := by
  unfold ordE
  by_cases h : cmpI a.f b.f = 0
  · rw [if_neg (by simp [h]), cmpI_neg]; have := (cmpI_zero _ _).1 h; omega
  · rw [if_pos h, cmpI_neg]; have : ¬ a.f = b.f := fun e => h ((cmpI_zero _ _).2 e); omega
theorem ordE_zero (a b : Edg) : ordE a b = 0 ↔ a.f = b.f ∧ a.t = b.t := by
  unfold ordE
  by_cases h : cmpI a.f b.f = 0
  · rw [if_neg (by simp [h]), cmpI_zero]; have := (cmpI_zero _ _).1 h; omega
  · rw [if_pos h]; have : ¬ a.f = b.f := fun e => h ((cmpI_zero _ _).2 e); omega
theorem ordC_neg (a b : Edg) : ordC a b < 0 ↔ a.f < b.f ∨ a.f = b.f ∧ (a.t < b.t ∨ a.t = b.t ∧ a.c < b.c) := by
  unfold ordC
  by_cases h : ordE a b = 0
  · rw [if_neg (by simp [h]), cmpI_neg]; have := (ordE_zero _ _).1 h; omega
  · rw [if_pos h, ordE_neg]; have : ¬ (a.f = b.f ∧ a.t = b.t) := fun e => h ((ordE_zero _ _).2 e); omega
theorem eqK_iff (a b : Edg) : eqK a b = true ↔ a.f = b.f ∧ a.t = b.t := by simp [eqK, ordE_zero]
theorem ltC (a b : Edg) : ltOf ordC a b = decide (a.f < b.f ∨ a.f = b.f ∧ (a.t < b.t ∨ a.t = b.t ∧ a.c < b.c)) := by
  unfold ltOf; rw [Bool.eq_iff_iff]; simp [ordC_neg]
theorem swo_c : Go.Sort.SWO (ltOf ordC) where
  irrefl x := by rw [ltC]; simp
  trans x y z h1 h2 := by rw [ltC] at *; simp at *; omega
  ntrans x y z h1 h2 := by rw [ltC] at *; simp only [decide_eq_false_iff_not] at *; omega
def srtC (l : List Edg) : List Edg := sortBy ordC l
def ofL (l : List Edg) : List Edg := compL eqK (srtC l)
def zeroG : Gr := ⟨0, 0, []⟩
def ofF (r n : Int) (l : List Edg) : Gr × Int := if checkI ⟨r, n, ofL l⟩ ≠ 0 then (zeroG, checkI ⟨r, n, ofL l⟩) else (⟨r, n, ofL l⟩, 0)
theorem srtC_perm (l : List Edg) : (srtC l).Perm l := (sortBy_spec ordC swo_c l).1
theorem srtC_len (l : List Edg) : (srtC l).length = l.length := (sortBy_spec ordC swo_c l).2.1
def leC (a b : Edg) : Prop := a.f < b.f ∨ a.f = b.f ∧ (a.t < b.t ∨ a.t = b.t ∧ a.c ≤ b.c)
theorem srtC_sorted (l : List Edg) : (srtC l).Pairwise leC := by
  obtain ⟨_, _, h⟩ := sortBy_spec ordC swo_c l
  show (sortBy ordC l).Pairwise leC
  rw [List.pairwise_iff_getElem]
  intro i j hi hj hij
  have := h i j _ _ hij (List.getElem?_eq_getElem hi) (List.getElem?_eq_getElem hj)
  rw [ordC_neg] at this
  unfold leC
  omega
theorem ddF_sub {α : Type} (eq : α → α → Bool) : ∀ (l : List α) (p x : α), x ∈ ddF eq p l → x ∈ l
  | [], _, _, h => by simp [ddF] at h
  | y :: l, p, x, h => by
    simp only [ddF] at h
    cases he : eq y p
    · rw [he, cond_false] at h
      rcases List.mem_cons.1 h with rfl | h
      · exact List.mem_cons_self ..
      · exact List.mem_cons_of_mem _ (ddF_sub eq l y x h)
    · rw [he, cond_true] at h
      exact List.mem_cons_of_mem _ (ddF_sub eq l y x h)
theorem compL_sub {α : Type} (eq : α → α → Bool) (l : List α) (x : α) (h : x ∈ compL eq l) : x ∈ l := by
  cases l with
  | nil => simp [compL] at h
  | cons p l =>
    rcases List.mem_cons.1 h with rfl | h
    · exact List.mem_cons_self ..
    · exact List.mem_cons_of_mem _ (ddF_sub eq l p x h)
theorem ofL_sub (l : List Edg) (x : Edg) (h : x ∈ ofL l) : x ∈ l := (srtC_perm l).mem_iff.1 (compL_sub _ _ _ h)
theorem ofL_ok {r n : Int} {l : List Edg} (hr : inr .i64 r) (hn : inr .i64 n) (hl : okEs l) : okG ⟨r, n, ofL l⟩ := ⟨hr, hn, fun e he => hl e (ofL_sub l e he)⟩
/-- strictly ascending by their ends -/
def ltK (a b : Edg) : Prop := a.f < b.f ∨ a.f = b.f ∧ a.t < b.t
theorem ltK_bef (a b : Edg) : befB a b = true ↔ ltK a b := by simp [befB, ltK]
def AscK (l : List Edg) : Prop := l.Pairwise ltK
theorem AscK.ext : ∀ {a b : List Edg}, AscK a → AscK b → (∀ p, p ∈ a ↔ p ∈ b) → a = b
  | [], [], _, _, _ => rfl
  | [], y :: b, _, _, h => by have := (h y).2 (List.mem_cons_self ..); cases this
  | x :: a, [], _, _, h => by have := (h x).1 (List.mem_cons_self ..); cases this
  | x :: a, y :: b, ha, hb, h => by
    obtain ⟨a1, a2⟩ := List.pairwise_cons.1 ha
    obtain ⟨b1, b2⟩ := List.pairwise_cons.1 hb
    have e : x = y := by
      rcases List.mem_cons.1 ((h x).1 (List.mem_cons_self ..)) with e | h1
      · exact e
      · rcases List.mem_cons.1 ((h y).2 (List.mem_cons_self ..)) with e | h2
        · exact e.symm
        · have := b1 x h1; have := a1 y h2; unfold ltK at *; omega
    subst e
    refine congrArg _ (AscK.ext a2 b2 fun p => ?_)
    constructor
    · intro hp
      rcases List.mem_cons.1 ((h p).1 (List.mem_cons_of_mem _ hp)) with e | h1
      · subst e; have := a1 p hp; unfold ltK at *; omega
      · exact h1
    · intro hp
      rcases List.mem_cons.1 ((h p).2 (List.mem_cons_of_mem _ hp)) with e | h1
      · subst e; have := b1 p hp; unfold ltK at *; omega
      · exact h1
/-- the cheapest edge of each pair of ends, ascending -/
structure Least (l s : List Edg) : Prop where
  asc : AscK s
  sub : ∀ e ∈ s, e ∈ l
  min : ∀ e ∈ s, ∀ e' ∈ l, e'.f = e.f → e'.t = e.t → e.c ≤ e'.c
  all : ∀ e' ∈ l, ∃ e ∈ s, e.f = e'.f ∧ e.t = e'.t
theorem Least.uniq {l a b : List Edg} (ha : Least l a) (hb : Least l b) : a = b := by
  have key : ∀ {a b : List Edg}, Least l a → Least l b → ∀ p, p ∈ a → p ∈ b := fun {a b} ha hb p hp => by
    obtain ⟨q, hq, h1, h2⟩ := hb.all p (ha.sub p hp)
    have := ha.min p hp q (hb.sub q hq) h1 h2
    have := hb.min q hq p (ha.sub p hp) h1.symm h2.symm
    have : p = q := by cases p; cases q; simp only [Edg.mk.injEq]; simp only at *; omega
    rw [this]; exact hq
  exact AscK.ext ha.asc hb.asc fun p => ⟨key ha hb p, key hb ha p⟩
theorem ddF_least : ∀ (l : List Edg) (p : Edg) (q : Edg), (p :: l).Pairwise leC → q.f = p.f → q.t = p.t → q.c ≤ p.c → (∀ e ∈ l, leC q e) → Least (q :: l) (q :: ddF eqK p l)
  | [], p, q, _, _, _, _, _ => ⟨by simp [AscK, ddF], fun e he => by simpa [ddF] using he, fun e he e' he' _ _ => by simp [ddF] at he he'; subst he; subst he'; exact Int.le_refl _, fun e' he' => ⟨e', by simpa [ddF] using he', rfl, rfl⟩⟩
  | y :: l, p, q, h, q1, q2, q3, hq => by
    obtain ⟨h1, h2⟩ := List.pairwise_cons.1 h
    have hy := h1 y (List.mem_cons_self ..)
    have hqy := hq y (List.mem_cons_self ..)
    simp only [ddF]
    cases he : eqK y p with
    | true =>
      rw [cond_true]
      have hk := (eqK_iff y p).1 he
      have ih := ddF_least l y q h2 (by omega) (by omega) (by unfold leC at hqy; omega) (fun e hel => hq e (List.mem_cons_of_mem _ hel))
      refine ⟨ih.asc, fun e hel => ?_, fun e hel e' hel' g1 g2 => ?_, fun e' hel' => ?_⟩
      · rcases List.mem_cons.1 (ih.sub e hel) with rfl | h
        · exact List.mem_cons_self ..
        · exact List.mem_cons_of_mem _ (List.mem_cons_of_mem _ h)
      · rcases List.mem_cons.1 hel' with rfl | h
        · exact ih.min e hel e' (List.mem_cons_self ..) g1 g2
        · rcases List.mem_cons.1 h with rfl | h
          · -- y itself: the same ends as q
            have := ih.min e hel q (List.mem_cons_self ..) (by omega) (by omega)
            unfold leC at hqy; omega
          · exact ih.min e hel e' (List.mem_cons_of_mem _ h) g1 g2
      · rcases List.mem_cons.1 hel' with rfl | h
        · exact ih.all e' (List.mem_cons_self ..)
        · rcases List.mem_cons.1 h with rfl | h
          · exact ⟨q, List.mem_cons_self .., by omega, by omega⟩
          · exact ih.all e' (List.mem_cons_of_mem _ h)
    | false =>
      rw [cond_false]
      have hk : ¬ (y.f = p.f ∧ y.t = p.t) := fun hh => by rw [(eqK_iff y p).2 hh] at he; cases he
      have ih := ddF_least l y y h2 rfl rfl (Int.le_refl _) (fun e hel => (List.pairwise_cons.1 h2).1 e hel)
      have hlt : ltK q y := by unfold leC at hy; unfold ltK; omega
      have hall : ∀ e ∈ y :: l, ltK q e := fun e hel => by
        rcases List.mem_cons.1 hel with rfl | h
        · exact hlt
        · have := (List.pairwise_cons.1 h2).1 e h
          unfold leC at this; unfold ltK at *; omega
      refine ⟨List.pairwise_cons.2 ⟨fun e hel => hall e (ih.sub e hel), ih.asc⟩, fun e hel => ?_, fun e hel e' hel' g1 g2 => ?_, fun e' hel' => ?_⟩
      · rcases List.mem_cons.1 hel with rfl | h
        · exact List.mem_cons_self ..
        · exact List.mem_cons_of_mem _ (ih.sub e h)
      · rcases List.mem_cons.1 hel with rfl | h
        · rcases List.mem_cons.1 hel' with rfl | h'
          · exact Int.le_refl _
          · have := hall e' h'; unfold ltK at this; omega
        · rcases List.mem_cons.1 hel' with rfl | h'
          · have := hall e (ih.sub e h); unfold ltK at this; omega
          · exact ih.min e h e' h' g1 g2
      · rcases List.mem_cons.1 hel' with rfl | h
        · exact ⟨e', List.mem_cons_self .., rfl, rfl⟩
        · obtain ⟨e, he1, he2⟩ := ih.all e' h
          exact ⟨e, List.mem_cons_of_mem _ he1, he2⟩
theorem ofL_least (l : List Edg) : Least l (ofL l) := by
  have hp := srtC_perm l
  have hs := srtC_sorted l
  unfold ofL
  generalize srtC l = s at *
  have main : Least s (compL eqK s) := by
    cases s with
    | nil => exact ⟨by simp [AscK, compL], by simp [compL], by simp [compL], by simp⟩
    | cons x s => exact ddF_least s x x hs rfl rfl (Int.le_refl _) (fun e he => (List.pairwise_cons.1 hs).1 e he)
  exact ⟨main.asc, fun e he => hp.mem_iff.1 (main.sub e he), fun e he e' he' => main.min e he e' (hp.mem_iff.2 he'), fun e' he' => main.all e' (hp.mem_iff.2 he')⟩
end Go.Pl
namespace Go.Proofs.YtoeckbdgemnngaaGreat
open Go Go.RT Go.Proofs Go.Pl
set_option linter.all false
set_option maxRecDepth 20000
set_option maxHeartbeats 4000000
theorem wHI7a {α : Prop} (h : α := by repeat (first | exact trivial | refine ⟨⟨rfl, rfl, rfl, tL⟩, ?_⟩)) : α := h
theorem ofcmp_c (a b : Edg) : Pure Tryz.prog 113 [.agg (encE a), .agg (encE b)] (If .i64 (ordC a b)) := by
 have e : ordC a b = orI [ordE a b, cmpI a.c b.c] := by
  unfold ordC
  simp only [orI]
  by_cases h : ordE a b = 0
  ·by_cases h2 : cmpI a.c b.c = 0 <;> simp [h, h2]
  simp [h]
 have ho := or_c [ordE a b, cmpI a.c b.c] (by simp)
 rw [← e] at ho
 refine Meets.intro Tryz.func113 rfl (Nat.le_of_ble_eq_true rfl) fun C hC => ?_
 simp only [List.map, argEnv, Nat.reduceAdd]
 refine nK ?_
 refine za ?_
 refine zu ?_
 refine zu ?_
 refine ze ?_
 refine zb ?_
 refine nK ?_
 refine s_draw mixed ?_
 refine zm ?_
 refine zm ?_
 refine rpZ 7 rfl (op_call_pure (fun _ => order_c _ _) rfl (Opd.func _) (oS (oT rfl) (oS (oT rfl) Opds.nil))) ?_
 refine zf ?_
 refine zh ?_
 refine zf ?_
 refine zh ?_
 refine rpZ 12 rfl (op_call_pure (fun _ => cmp_c _ _) rfl (Opd.func _) (oS (oT rfl) (oS (oT rfl) Opds.nil))) ?_
 refine zcw ?_
 refine rpZ 14 rfl (op_call_pure (fun _ => ho) rfl (Opd.func _) (oS (oT rfl) Opds.nil)) ?_
 refine zd ?_
 refine zq ?_
 refine nK ?_
 exact wO hC
theorem ofeq_c (a b : Edg) : Pure Tryz.prog 116 [.agg (encE a), .agg (encE b)] (Bf (eqK a b)) := by
 refine Meets.intro Tryz.func116 rfl (Nat.le_of_ble_eq_true rfl) fun C hC => ?_
 simp only [List.map, argEnv, Nat.reduceAdd]
 refine nK ?_
 refine za ?_
 refine zu ?_
 refine zu ?_
 refine ze ?_
 refine zb ?_
 refine nK ?_
 refine za ?_
 refine zm ?_
 refine zm ?_
 refine rpZ 7 rfl (op_call_pure (fun _ => order_c _ _) rfl (Opd.func _) (oS (oT rfl) (oS (oT rfl) Opds.nil))) ?_
 refine zba ?_
 refine zd ?_
 refine zb ?_
 refine nK ?_
 exact wO hC
def vE (e : Edg) : List Value := [.int .i64 e.f, .int .i64 e.t, .int .i64 e.c]
theorem sorte_c (l : List Edg) (hn : l.length ≤ 40000000) : Meets Tryz.prog 112 [.sl 0 3 0 l.length, .clo 113 [] []] 1 [(0, OE l)] (.fz (.tup [])) [(0, OE (srtC l))] 1 :=
 sort_meets (ρ := Tryz.sortEdge_ren) Tryz.sortEdge (k := 3) (by decide) (fun w => run_isAgg (t := 157) inferInstance w) (fun w => run_size (t := 157) inferInstance w) (ev := vE) (fun _ => rfl) (fun x v hv => by simp [vE] at hv; rcases hv with rfl | rfl | rfl <;> rfl) swo_c (g := 113) (enters_of Tryz.func113 (by kernel_rfl) rfl) (fun x y => ofcmp_c x y) (l := l) (by omega)
theorem of_c (r n : Int) (l : List Edg) (hr : inr .i64 r) (hn : inr .i64 n) (hl : okEs l) (hle : l.length ≤ 40000000) : Pure Tryz.prog 75 [If .i64 r, If .i64 n, VE l] (.tup [.agg (encG (ofF r n l).1), If .i64 (ofF r n l).2]) := by
 have hok := ofL_ok hr hn hl
 have hcl := clone_c l hle
 have hso := sorte_c l hle
 have hsl := srtC_len l
 have hco := compactF_c (srtC l) (by omega) 116 eqK (fun x y => ofeq_c x y)
 rw [hsl] at hco
 refine Meets.intro Tryz.func75 rfl (Nat.le_of_ble_eq_true rfl) fun C hC => ?_
 simp only [List.map, argEnv, Nat.reduceAdd]
 refine nK ?_
 refine za ?_
 refine zo ?_
 refine ze ?_
 refine zb ?_
 refine nK ?_
 refine za ?_
 refine zc ?_
 refine zc ?_
 refine zc ?_
 refine Run.eff (dd := some 13) rfl rfl (op_call_fresh (fun _ => hcl) rfl (Opd.func _) (oS (oT rfl) Opds.nil)) ?_
 refine rpZ 14 rfl (op_buildP rfl rfl rfl rfl (FillP.cons _ _ _ _ _ _ _ _ _ _ (by rfl) (oT rfl) tP (by rfl) tR (FillP.cons _ _ _ _ _ _ _ _ _ _ (by rfl) (oT rfl) tP (by rfl) tR (FillP.cons _ _ _ _ _ _ _ _ _ _ (by rfl) (oT rfl) tP (by rfl) tR (FillP.nil _))))) ?_
 refine zec ?_
 refine zcb ?_
 refine zb ?_
 refine nK ?_
 refine nK ?_
 refine za ?_
 refine zf ?_
 refine zbb ?_
 refine Run.eff (dd := some 17) rfl rfl (op_call (n := 1) (n' := 1) [1] (fun _ => hso) rfl (Opd.func _) (oS (oT rfl) (oS (Opd.func _) Opds.nil)) rfl rfl (Lent.of rfl rfl wHI7a rfl) rfl rfl rfl rfl rfl) ?_
 refine zb ?_
 refine nK ?_
 refine za ?_
 refine zf ?_
 refine zbb ?_
 refine Run.eff (dd := some 20) rfl rfl (op_call (n := 1) (n' := 1) [1] (fun _ => hco) rfl (Opd.func _) (oS (oT rfl) (oS (Opd.func _) Opds.nil)) rfl rfl (Lent.of rfl rfl wHI7a rfl) rfl rfl rfl rfl rfl) ?_
 refine zf ?_
 refine zcb ?_
 refine zb ?_
 refine nK ?_
 have hzz : encG zeroG = [If .i64 0, If .i64 0, .vals 3 []] := rfl
 unfold ofF
 refine Next.weakS [6, 8] [] (by rfl) (keeps0 hC _) (G' := [(6, .ptr 0 3 0 0), (8, .ptr 1 3 0 0)]) (H' := [(0, OG zeroG), (1, OG ⟨r, n, ofL l⟩)]) wG ⟨⟨rfl, rfl, .fflat _ _ _ rfl tW⟩, ⟨⟨rfl, rfl, .flat _ _ _ rfl tW⟩, trivial⟩⟩ rfl ?_
 refine nK ?_
 refine za ?_
 refine zm ?_
 refine rpZ 23 rfl (op_call_pure (fun _ => check_c _ (by assumption)) rfl (Opd.func _) (oS (oT rfl) Opds.nil)) ?_
 refine zd ?_
 refine zb ?_
 refine nK ?_
 refine za ?_
 refine zc ?_
 refine zbe ?_
 refine zb ?_
 refine nK ?_
 refine n_cond _ rfl (fun hb => ?_) (fun hb => ?_)
 ·rw [if_pos (by simpa using hb)]
  refine nK ?_
  refine za ?_
  refine zbg ?_
  refine zc ?_
  refine zg ?_
  refine zd ?_
  refine zb ?_
  refine nK ?_
  refine Next.weakS [6] [] (by rfl) (keeps0 hC _) (G' := [(6, .ptr 0 3 0 0), (7, IV .i64 (checkI ⟨r, n, ofL l⟩))]) (H' := [(0, OG zeroG)]) wG ⟨⟨rfl, rfl, .fflat _ _ _ rfl tW⟩, trivial⟩ rfl ?_
  exact wO hC
 rw [if_neg (by simpa using hb)]
 refine nK ?_
 refine za ?_
 refine zm ?_
 refine zg ?_
 refine ze ?_
 refine zb ?_
 refine nK ?_
 exact wO hC
end Go.Proofs.YtoeckbdgemnngaaGreat
/- Which nodes can be reached. -/
namespace Go.Pl
open Go.RT
set_option linter.all false
inductive Rch (l : List Edg) (a : Int) : Int → Prop where
  | here : Rch l a a
  | step (e : Edg) : e ∈ l → Rch l a e.f → Rch l a e.t
open Classical in
/-- a checked graph's edges lie between its nodes -/
theorem chkL_alw {g : Gr} : ∀ (l : List Edg) (p : Option Edg), chkL g p l = 0 → ∀ e ∈ l, alwI g e = 0
  | [], _, _, e, he => by cases he
  | x :: l, p, h, e, he => by
    simp only [chkL] at h
    by_cases h1 : alwI g x = 0
    · rw [if_neg (by simp [h1])] at h
      by_cases h2 : badP p x = true
      · rw [if_pos h2] at h; cases h
      · rw [if_neg h2] at h
        rcases List.mem_cons.1 he with rfl | he
        · exact h1
        · exact chkL_alw l _ h e he
    · rw [if_pos h1] at h; exact absurd h h1
theorem checkI_ok {g : Gr} (h : checkI g = 0) : szOk g ∧ g.es.length ≤ 1024 ∧ chkL g none g.es = 0 := by
  unfold checkI at h
  by_cases h1 : sizeI g = 0
  · rw [if_neg (by simp [h1])] at h
    exact ⟨(sizeI_ok h1).1, (sizeI_ok h1).2, h⟩
  · rw [if_pos h1] at h; exact absurd h h1
theorem alwI_node {g : Gr} {e : Edg} (h : alwI g e = 0) : (0 ≤ e.f ∧ e.f < g.r + g.n) ∧ (0 ≤ e.t ∧ e.t < g.r + g.n) := by
  unfold alwI at h
  by_cases h1 : nodeB g e.f = false ∨ nodeB g e.t = false
  · rw [if_pos h1] at h; cases h
  · simp only [not_or, Bool.not_eq_false, nodeB, Bool.and_eq_true, decide_eq_true_eq] at h1
    exact h1
/-- how many are marked -/
def cntT (l : List Bool) : Nat := l.countP (· == true)
theorem cntT_set {l : List Bool} {v : Nat} (h : l[v]? = some false) : cntT (l.set v true) = cntT l + 1 := by
  obtain ⟨hv, he⟩ := List.getElem?_eq_some_iff.1 h
  induction l generalizing v with
  | nil => simp at hv
  | cons x l ih =>
    cases v with
    | zero => simp at he; subst he; simp [cntT]
    | succ v =>
      have hv2 : v < l.length := by simpa using hv
      have := ih (by simpa using h) hv2 (by simpa using he)
      unfold cntT at *
      simp only [List.set_cons_succ, List.countP_cons, this]; omega
open Go.RT
open Classical in
/-- what the search knows -/
structure Bfs (g : Gr) (a : Int) (out : List Bool) (l : List Int) (i : Nat) : Prop where
  len : out.length = (g.r + g.n).toNat
  from_ : out[a.toNat]? = some true
  i_le : i ≤ l.length
  mem : ∀ x ∈ l, 0 ≤ x ∧ x < g.r + g.n ∧ out[x.toNat]? = some true ∧ Rch g.es a x
  all : ∀ v : Nat, out[v]? = some true → (v : Int) ∈ l
  cnt : l.length = cntT out
  done : ∀ x ∈ l.take i, ∀ e ∈ g.es, e.f = x → out[e.t.toNat]? = some true
theorem set_true {out : List Bool} {v w : Nat} (h : out[w]? = some true) : (out.set v true)[w]? = some true := by
  rw [List.getElem?_set]
  obtain ⟨h1, _⟩ := List.getElem?_eq_some_iff.1 h
  split
  · rename_i e; subst e; rw [if_pos h1]
  · exact h
theorem Bfs.next {g : Gr} {a : Int} {out : List Bool} {l : List Int} {i : Nat} (h : Bfs g a out l i) {x : Int} (hx : l[i]? = some x) (hd : ∀ y ∈ nextI x g.es, out[y.toNat]? = some true) : Bfs g a out l (i + 1) := by
  obtain ⟨hi, hxe⟩ := List.getElem?_eq_some_iff.1 hx
  refine ⟨h.len, h.from_, hi, h.mem, h.all, h.cnt, fun y hy e he1 he2 => ?_⟩
  rw [List.take_succ_eq_append_getElem hi] at hy
  rcases List.mem_append.1 hy with hy | hy
  · exact h.done y hy e he1 he2
  · have : y = x := by simpa [hxe] using hy
    exact hd e.t (((nextI_spec x g.es).2 e.t).2 ⟨e, he1, by omega, rfl⟩)
theorem Bfs.start {g : Gr} {k : Nat} (hk : (k : Int) < g.r + g.n) : Bfs g k ((List.replicate (g.r + g.n).toNat false).set k true) [(k : Int)] 0 := by
  have hf : (List.replicate (g.r + g.n).toNat false)[k]? = some false := by rw [List.getElem?_replicate, if_pos (by omega)]
  have h0 : cntT (List.replicate (g.r + g.n).toNat false) = 0 := by
    unfold cntT; rw [List.countP_eq_zero]; intro b hb; rw [List.eq_of_mem_replicate hb]; simp
  have hkk : ((List.replicate (g.r + g.n).toNat false).set k true)[k]? = some true := by rw [List.getElem?_set, if_pos rfl, if_pos (by simp; omega)]
  refine ⟨by simp, by simpa using hkk, by simp, fun x hx => ?_, fun v hv => ?_, by rw [cntT_set hf, h0]; rfl, fun x hx => by simp at hx⟩
  · have : x = k := by simpa using hx
    subst this
    exact ⟨by omega, hk, by simpa using hkk, .here⟩
  · rw [List.getElem?_set] at hv
    split at hv
    · rename_i e; subst e; simp
    · rw [List.getElem?_replicate] at hv; split at hv <;> simp at hv
end Go.Pl
/- The reference's search: passes over all edges. -/
namespace Go.Pl
open Go.RT
set_option linter.all false
/-- one edge of a pass -/
def passE (out : List Bool) (e : Edg) : List Bool := if out[e.f.toNat]? = some true then out.set e.t.toNat true else out
def pass (es : List Edg) (out : List Bool) : List Bool := es.foldl passE out
theorem passE_len (out : List Bool) (e : Edg) : (passE out e).length = out.length := by unfold passE; split <;> simp
theorem pass_len : ∀ (es : List Edg) (out : List Bool), (pass es out).length = out.length
  | [], out => rfl
  | e :: es, out => by
    show (pass es (passE out e)).length = _
    rw [pass_len es, passE_len]
theorem passE_mono {out : List Bool} {e : Edg} {v : Nat} (h : out[v]? = some true) : (passE out e)[v]? = some true := by
  unfold passE; split
  · exact set_true h
  · exact h
theorem pass_mono : ∀ {es : List Edg} {out : List Bool} {v : Nat}, out[v]? = some true → (pass es out)[v]? = some true
  | [], out, v, h => h
  | e :: es, out, v, h => pass_mono (es := es) (passE_mono h)
theorem cntT_cons (x : Bool) (l : List Bool) : cntT (x :: l) = cntT l + if x = true then 1 else 0 := by
  unfold cntT; rw [List.countP_cons]; cases x <;> rfl
theorem cnt_mono : ∀ {a b : List Bool}, a.length = b.length → (∀ v : Nat, a[v]? = some true → b[v]? = some true) → cntT a ≤ cntT b ∧ (cntT a = cntT b → a = b)
  | [], [], _, _ => ⟨Nat.le_refl _, fun _ => rfl⟩
  | [], _ :: _, h, _ => by simp at h
  | _ :: _, [], h, _ => by simp at h
  | x :: a, y :: b, hl, h => by
    obtain ⟨i1, i2⟩ := cnt_mono (a := a) (b := b) (by simpa using hl) (fun v hv => by simpa using h (v + 1) (by simpa using hv))
    have h0 := h 0
    simp only [List.getElem?_cons_zero, Option.some.injEq] at h0
    rw [cntT_cons, cntT_cons]
    cases x <;> cases y
    · exact ⟨by simpa using i1, fun hh => by rw [i2 (by simpa using hh)]⟩
    · exact ⟨by simp; omega, fun hh => by simp at hh; omega⟩
    · simp at h0
    · exact ⟨by simpa using i1, fun hh => by rw [i2 (by simpa using hh)]⟩
/-- a pass that changes nothing: closed under the edges -/
theorem pass_fix : ∀ {es : List Edg} {out : List Bool}, pass es out = out → (∀ e ∈ es, 0 ≤ e.t ∧ e.t.toNat < out.length) → ∀ e ∈ es, out[e.f.toNat]? = some true → out[e.t.toNat]? = some true := by
  intro es out h hin
  -- every prefix of the pass leaves the list as it is
  have key : ∀ (es : List Edg) (out o : List Bool), o.length = out.length → (∀ v : Nat, out[v]? = some true → o[v]? = some true) → pass es o = out → (∀ e ∈ es, 0 ≤ e.t ∧ e.t.toNat < out.length) → o = out ∧ ∀ e ∈ es, out[e.f.toNat]? = some true → out[e.t.toNat]? = some true := by
    intro es
    induction es with
    | nil => intro out o _ _ h _; exact ⟨h, fun e he => by cases he⟩
    | cons e es ih =>
      intro out o hl hm hp hin
      have hp' : pass es (passE o e) = out := hp
      obtain ⟨i1, i2⟩ := ih out (passE o e) (by rw [passE_len]; exact hl) (fun v hv => passE_mono (hm v hv)) hp' (fun e' he' => hin e' (List.mem_cons_of_mem _ he'))
      have hle : ∀ v : Nat, o[v]? = some true → out[v]? = some true := fun v hv => by rw [← i1]; exact passE_mono hv
      have hoe : o = out := by
        have c1 := (cnt_mono hl hle)
        have c2 := (cnt_mono hl.symm hm)
        exact c1.2 (Nat.le_antisymm c1.1 c2.1)
      refine ⟨hoe, fun e' he' hf => ?_⟩
      rcases List.mem_cons.1 he' with rfl | he'
      · subst hoe
        unfold passE at i1
        rw [if_pos hf] at i1
        have := hin e' (List.mem_cons_self ..)
        rw [← i1, List.getElem?_set, if_pos rfl, if_pos this.2]
      · exact i2 e' he' hf
  exact (key es out out rfl (fun v h => h) h hin).2
/-- what the passes keep -/
structure Pas (g : Gr) (a : Int) (out : List Bool) : Prop where
  len : out.length = (g.r + g.n).toNat
  from_ : out[a.toNat]? = some true
  sound : ∀ v : Nat, out[v]? = some true → Rch g.es a (v : Int)
theorem Pas.stepE {g : Gr} {a : Int} {out : List Bool} {e : Edg} (h : Pas g a out) (he : e ∈ g.es) (h0 : 0 ≤ e.f ∧ 0 ≤ e.t) : Pas g a (passE out e) := by
  refine ⟨by rw [passE_len]; exact h.len, passE_mono h.from_, fun v hv => ?_⟩
  unfold passE at hv
  split at hv
  · rename_i hf
    rw [List.getElem?_set] at hv
    split at hv
    · rename_i e2
      have := h.sound _ hf
      rw [Int.toNat_of_nonneg h0.1] at this
      rw [← e2, Int.toNat_of_nonneg h0.2]
      exact .step e he this
    · exact h.sound v hv
  · exact h.sound v hv
theorem Pas.pass {g : Gr} {a : Int} : ∀ {es : List Edg} {out : List Bool}, Pas g a out → (∀ e ∈ es, e ∈ g.es ∧ 0 ≤ e.f ∧ 0 ≤ e.t) → Pas g a (Pl.pass es out)
  | [], out, h, _ => h
  | e :: es, out, h, he => Pas.pass (es := es) (h.stepE (he e (List.mem_cons_self ..)).1 (he e (List.mem_cons_self ..)).2) (fun e' h' => he e' (List.mem_cons_of_mem _ h'))
/-- after k passes: closed, or more than k nodes marked -/
def Far (g : Gr) (out : List Bool) (k : Nat) : Prop := (∀ e ∈ g.es, out[e.f.toNat]? = some true → out[e.t.toNat]? = some true) ∨ k + 1 ≤ cntT out
theorem Far.next {g : Gr} {out : List Bool} {k : Nat} (h : Far g out k) (hin : ∀ e ∈ g.es, 0 ≤ e.t ∧ e.t.toNat < out.length) : Far g (pass g.es out) (k + 1) := by
  by_cases hf : pass g.es out = out
  · rw [hf]; exact .inl (pass_fix hf hin)
  · have hc := cnt_mono (a := out) (b := pass g.es out) (pass_len _ _).symm (fun v => pass_mono)
    have hlt : cntT out < cntT (pass g.es out) := by
      rcases Nat.lt_or_ge (cntT out) (cntT (pass g.es out)) with h1 | h1
      · exact h1
      · exact absurd (hc.2 (by omega)).symm hf
    rcases h with h | h
    · -- closed already: a pass changes nothing
      exfalso
      apply hf
      have : ∀ (es : List Edg), (∀ e ∈ es, e ∈ g.es) → pass es out = out := by
        intro es
        induction es with
        | nil => exact fun _ => rfl
        | cons e es ih =>
          intro hes
          have hee := hes e (List.mem_cons_self ..)
          have he : passE out e = out := by
            unfold passE
            split
            · rename_i ht
              have hh := h e hee ht
              obtain ⟨q1, q2⟩ := List.getElem?_eq_some_iff.1 hh
              rw [← q2]; exact List.set_getElem_self q1
            · rfl
          show pass es (passE out e) = out
          rw [he]; exact ih fun e' h' => hes e' (List.mem_cons_of_mem _ h')
      exact this g.es fun e h => h
    · exact .inr (by omega)
end Go.Pl
/- The valid graph of edges, as the reference puts it together. -/
namespace Go.Pl
open Go.RT
set_option linter.all false
end Go.Pl
namespace Go.Proofs.YtoeckbdgemnngaaGreat
open Go Go.RT Go.Proofs Go.Pl
set_option linter.all false
set_option maxRecDepth 20000
set_option maxHeartbeats 4000000
end Go.Proofs.YtoeckbdgemnngaaGreat
/- Plain facts on 32-bit prefixes. No program in sight. -/
namespace Go.Pl

def clampN (n : Int) : Nat := (min (max n 0) 32).toNat
theorem clampN_le (n : Int) : clampN n ≤ 32 := by unfold clampN; omega
theorem clampN_int (n : Int) : min (max n 0) 32 = (clampN n : Int) := by unfold clampN; omega
def keepN (x c : Nat) : Nat := x / 2 ^ (32 - c) * 2 ^ (32 - c)

theorem land_high (x k : Nat) (hk : k ≤ 32) (hx : x < 2 ^ 32) : x &&& (2 ^ 32 - 2 ^ k) = x / 2 ^ k * 2 ^ k := by
  apply Nat.eq_of_testBit_eq
  intro i
  have e : 2 ^ 32 - 2 ^ k = (2 ^ (32 - k) - 1) <<< k := by
    rw [Nat.shiftLeft_eq, Nat.sub_mul, ← Nat.pow_add, Nat.one_mul, Nat.sub_add_cancel hk]
  rw [Nat.testBit_and, e, Nat.testBit_shiftLeft, Nat.testBit_two_pow_sub_one, ← Nat.shiftRight_eq_div_pow, ← Nat.shiftLeft_eq, Nat.testBit_shiftLeft, Nat.testBit_shiftRight]
  by_cases h : k ≤ i
  · by_cases h2 : i < 32
    · have : i - k < 32 - k := by omega
      simp [h, this, show k + (i - k) = i by omega]
    · have hb : x.testBit i = false := Nat.testBit_lt_two_pow (Nat.lt_of_lt_of_le hx (Nat.pow_le_pow_right (by omega) (by omega)))
      simp [h, hb, show k + (i - k) = i by omega]
  · simp [h]
theorem keepN_le (x c : Nat) : keepN x c ≤ x := Nat.div_mul_le_self _ _
theorem mask_wrap (k : Nat) (hk : k ≤ 32) : (4294967295 * 2 ^ k) % 4294967296 = 4294967296 - 2 ^ k := by
  have h1 : 2 ^ k ≤ 2 ^ 32 := Nat.pow_le_pow_right (by omega) hk
  have h2 : 0 < 2 ^ k := Nat.two_pow_pos k
  have e : 4294967295 * 2 ^ k = (2 ^ k - 1) * 4294967296 + (4294967296 - 2 ^ k) := by
    have : (2 ^ k - 1) * 4294967296 = 2 ^ k * 4294967296 - 4294967296 := by rw [Nat.sub_mul, Nat.one_mul]
    omega
  rw [e, Nat.mul_comm, Nat.mul_add_mod]
  exact Nat.mod_eq_of_lt (by omega)
end Go.Pl
namespace Go.Pl
end Go.Pl
/- Prefixes and what the functions on one prefix compute. No program in sight. -/
namespace Go.Pl
open Go.RT
structure Pfx where
  addr : Nat
  len : Int
  deriving DecidableEq
def Pfx.ok (p : Pfx) : Prop := p.addr < 2 ^ 32 ∧ inr .i64 p.len
def encP (p : Pfx) : List FV := [If .u32 p.addr, If .i64 p.len]
def validB (p : Pfx) : Bool := decide (0 ≤ p.len) && decide (p.len ≤ 32) && decide ((keepN p.addr (clampN p.len) : Int) = p.addr)
def ofP (a : Nat) (n : Int) : Pfx := ⟨keepN a (clampN n), n⟩
theorem eqFs_encP (p q : Pfx) : eqFs (encP p) (encP q) = decide (p = q) := by
  obtain ⟨a, b⟩ := p; obtain ⟨c, d⟩ := q
  simp [eqFs, encP, If]
  by_cases h1 : a = c <;> by_cases h2 : b = d <;> simp [h1, h2] <;> omega
/-- the number of host bits -/
def hob (p : Pfx) : Nat := 32 - clampN p.len
def sz (p : Pfx) : Nat := 2 ^ hob p
end Go.Pl
/- Routes of a table and what the functions on them compute. No program in sight. -/
namespace Go.Pl
open Go Go.RT
set_option linter.all false
structure Hop where
  ad : Int
  ifc : Int
  ro : Int
  we : Int
  via : Pfx
  deriving DecidableEq
structure Rte where
  pf : Pfx
  pr : Int
  di : Int
  me : Int
  tg : Int
  hs : List Hop
  deriving DecidableEq
def outB (n lo hi : Int) : Bool := decide (n < lo) || decide (hi < n)
/-- the first that is not 0 -/
def fst3 (a b c : Int) : Int := if a ≠ 0 then a else if b ≠ 0 then b else c
def cmpP (p q : Pfx) : Int := if (decide (p.addr < q.addr) || decide (p.addr = q.addr) && decide (p.len < q.len)) = true then -1 else if p = q then 0 else 1
def cmpHo (a b : Hop) : Int := fst3 (cmpI a.ad b.ad) (cmpI a.ifc b.ifc) (cmpI a.ro b.ro)
def cmpRt (a b : Rte) : Int := fst3 (cmpP a.pf b.pf) (cmpI a.di b.di) (cmpI a.pr b.pr)
def badHo : Option Hop → Hop → Bool
  | none, _ => false
  | some q, h => decide (0 ≤ cmpHo q h)
def hopE (h : Hop) : Int := if (outB h.ifc (-1) 15 || outB h.we 1 255) = true then 5 else if (!validB h.via) = true then 1 else 0
def hopsGo : Option Hop → List Hop → Int
  | _, [] => 0
  | p, h :: t => if hopE h ≠ 0 then hopE h else if badHo p h = true then 16 else hopsGo (some h) t
def checkRt (r : Rte) : Int :=
  if (!validB r.pf) = true then 1 else
  if outB r.pr 1 7 = true then 15 else
  if (outB r.di 0 255 || outB r.me 0 16777216 || outB r.tg 0 4294967295) = true then 5 else
  if 64 < r.hs.length then 4 else hopsGo none r.hs
def hasB (l : List Rte) (p : Pfx) (n : Int) : Bool := l.any fun x => decide (x.pf = p) && decide (x.pr = n)
def badRt : Option Rte → Rte → Bool
  | none, _ => false
  | some q, x => decide (0 ≤ cmpRt q x)
def chkGo (l : List Rte) : List Rte → List Rte → Int
  | _, [] => 0
  | s, x :: t => if checkRt x ≠ 0 then checkRt x else if hasB s x.pf x.pr = true then 7 else if badRt s.getLast? x = true then 16 else chkGo l (s ++ [x]) t
def checkL (l : List Rte) : Int := if 2000 < l.length then 4 else chkGo l [] l
def actGo : Option Pfx → List Rte → List Rte
  | _, [] => []
  | p, x :: t => (if p = some x.pf then [] else [x]) ++ actGo (some x.pf) t
def activeF (l : List Rte) : List Rte := if checkL l ≠ 0 then [] else actGo none l
/-- a list of active routes, or nothing -/
def listF (l : List Rte) : List Rte := if (activeF l).length < l.length then [] else l
end Go.Pl
/- The order of routes; valid tables. No program in sight. -/
namespace Go.Pl
open Go Go.RT
set_option linter.all false
def ltPf (p q : Pfx) : Prop := p.addr < q.addr ∨ p.addr = q.addr ∧ p.len < q.len
theorem Pfx.ext' {p q : Pfx} (h1 : p.addr = q.addr) (h2 : p.len = q.len) : p = q := by
  cases p; cases q; simp only at h1 h2; subst h1; subst h2; rfl
theorem cmpP_neg (p q : Pfx) : cmpP p q < 0 ↔ ltPf p q := by
  unfold cmpP ltPf
  by_cases c : (decide (p.addr < q.addr) || decide (p.addr = q.addr) && decide (p.len < q.len)) = true
  · rw [if_pos c]; simp at c; simp; omega
  · rw [if_neg c]; simp at c
    constructor
    · intro h; split at h <;> omega
    · intro h; omega
theorem cmpP_zero (p q : Pfx) : cmpP p q = 0 ↔ p = q := by
  unfold cmpP
  by_cases c : (decide (p.addr < q.addr) || decide (p.addr = q.addr) && decide (p.len < q.len)) = true
  · rw [if_pos c]; simp at c
    constructor
    · intro h; cases h
    · intro h; subst h; omega
  · rw [if_neg c]
    by_cases h : p = q
    · simp [h]
    · simp [h]
theorem fst3_neg (a b c : Int) : fst3 a b c < 0 ↔ a < 0 ∨ a = 0 ∧ (b < 0 ∨ b = 0 ∧ c < 0) := by
  unfold fst3
  split
  · omega
  · split <;> omega
def ltRt (a b : Rte) : Prop := ltPf a.pf b.pf ∨ a.pf = b.pf ∧ (a.di < b.di ∨ a.di = b.di ∧ a.pr < b.pr)
theorem cmpRt_neg (a b : Rte) : cmpRt a b < 0 ↔ ltRt a b := by
  unfold cmpRt ltRt
  rw [fst3_neg, cmpP_neg, cmpP_zero, cmpI_neg, cmpI_zero, cmpI_neg]
theorem pf_tri (p q : Pfx) : ltPf p q ∨ p = q ∨ ltPf q p := by
  unfold ltPf
  by_cases h1 : p.addr = q.addr
  · by_cases h2 : p.len = q.len
    · exact .inr (.inl (Pfx.ext' h1 h2))
    · omega
  · omega
theorem ltPf.trans {a b c : Pfx} (h1 : ltPf a b) (h2 : ltPf b c) : ltPf a c := by unfold ltPf at *; omega
theorem ltPf.irr {a : Pfx} (h : ltPf a a) : False := by unfold ltPf at h; omega
theorem ltRt.trans {a b c : Rte} (h1 : ltRt a b) (h2 : ltRt b c) : ltRt a c := by
  unfold ltRt at *
  rcases h1 with h1 | ⟨e1, h1⟩ <;> rcases h2 with h2 | ⟨e2, h2⟩
  · exact .inl (h1.trans h2)
  · exact .inl (e2 ▸ h1)
  · exact .inl (e1 ▸ h2)
  · exact .inr ⟨e1.trans e2, by omega⟩
theorem ltRt.irr {a : Rte} (h : ltRt a a) : False := by
  unfold ltRt at h
  rcases h with h | ⟨_, h⟩
  · exact h.irr
  · omega
def sameK (a b : Rte) : Prop := a.pf = b.pf ∧ a.pr = b.pr
/-- a valid table -/
structure TabOk (l : List Rte) : Prop where
  len : l.length ≤ 2000
  chk : ∀ x ∈ l, checkRt x = 0
  asc : l.Pairwise ltRt
  uni : l.Pairwise fun a b => ¬ sameK a b
theorem hasB_iff {l : List Rte} {p : Pfx} {n : Int} : hasB l p n = true ↔ ∃ x ∈ l, x.pf = p ∧ x.pr = n := by
  simp [hasB, List.any_eq_true]
theorem chk_iff (l : List Rte) : ∀ (t s : List Rte), chkGo l s t = 0 ↔ (∀ x ∈ t, checkRt x = 0) ∧ t.Pairwise ltRt ∧ (t.Pairwise fun a b => ¬ sameK a b) ∧ (∀ x ∈ t, ∀ q, s.getLast? = some q → ltRt q x) ∧ ∀ x ∈ t, ∀ y ∈ s, ¬ sameK y x
  | [], s => by simp [chkGo]
  | x :: t, s => by
    simp only [chkGo]
    by_cases h1 : checkRt x ≠ 0
    · rw [if_pos h1]
      exact ⟨fun h => absurd h h1, fun h => absurd (h.1 x (List.mem_cons_self ..)) h1⟩
    rw [if_neg h1]
    by_cases h2 : hasB s x.pf x.pr = true
    · rw [if_pos h2]
      obtain ⟨y, hy, k1, k2⟩ := hasB_iff.1 h2
      exact ⟨fun h => (by cases h), fun h => absurd ⟨k1, k2⟩ (h.2.2.2.2 x (List.mem_cons_self ..) y hy)⟩
    rw [if_neg h2]
    have hno : ∀ y ∈ s, ¬ sameK y x := fun y hy k => h2 (hasB_iff.2 ⟨y, hy, k⟩)
    by_cases h3 : badRt s.getLast? x = true
    · rw [if_pos h3]
      refine ⟨fun h => (by cases h), fun h => ?_⟩
      cases hs : s.getLast? with
      | none => rw [hs] at h3; cases h3
      | some q =>
        rw [hs] at h3
        have := h.2.2.2.1 x (List.mem_cons_self ..) q hs
        rw [← cmpRt_neg] at this
        simp only [badRt, decide_eq_true_eq] at h3
        omega
    rw [if_neg h3]
    have hlt : ∀ q, s.getLast? = some q → ltRt q x := fun q hq => by
      rw [hq] at h3
      rw [← cmpRt_neg]
      simp only [badRt, decide_eq_true_eq] at h3
      omega
    rw [chk_iff l t (s ++ [x])]
    simp only [List.getLast?_append, List.getLast?_singleton, Option.some_or, Option.some.injEq, List.mem_append, List.mem_singleton]
    constructor
    · rintro ⟨a1, a2, a3, a4, a5⟩
      refine ⟨fun y hy => ?_, List.pairwise_cons.2 ⟨fun y hy => a4 y hy x rfl, a2⟩, List.pairwise_cons.2 ⟨fun y hy => a5 y hy x (.inr rfl), a3⟩, fun y hy q hq => ?_, fun y hy z hz => ?_⟩
      · rcases List.mem_cons.1 hy with rfl | hy
        · simpa using h1
        · exact a1 y hy
      · rcases List.mem_cons.1 hy with rfl | hy
        · exact hlt q hq
        · exact (hlt q hq).trans (a4 y hy x rfl)
      · rcases List.mem_cons.1 hy with rfl | hy
        · exact hno z hz
        · exact a5 y hy z (.inl hz)
    · rintro ⟨a1, a2, a3, a4, a5⟩
      obtain ⟨b1, b2⟩ := List.pairwise_cons.1 a2
      obtain ⟨c1, c2⟩ := List.pairwise_cons.1 a3
      refine ⟨fun y hy => a1 y (List.mem_cons_of_mem _ hy), b2, c2, fun y hy q hq => hq ▸ b1 y hy, fun y hy z hz => ?_⟩
      rcases hz with hz | rfl
      · exact a5 y (List.mem_cons_of_mem _ hy) z hz
      · exact c1 y hy
theorem check_iff (l : List Rte) : checkL l = 0 ↔ TabOk l := by
  unfold checkL
  by_cases h : 2000 < l.length
  · rw [if_pos h]
    exact ⟨fun k => (by cases k), fun k => by have := k.len; omega⟩
  · rw [if_neg h, chk_iff l l []]
    constructor
    · rintro ⟨a1, a2, a3, _, _⟩; exact ⟨by omega, a1, a2, a3⟩
    · rintro ⟨_, a1, a2, a3⟩; exact ⟨a1, a2, a3, fun x _ q hq => by simp at hq, fun x _ y hy => by simp at hy⟩
end Go.Pl
/- Inserting routes into tables. No program in sight. -/
namespace Go.Pl
open Go Go.RT
set_option linter.all false
end Go.Pl
/- Replacing routes; active routes. No program in sight. -/
namespace Go.Pl
open Go Go.RT
set_option linter.all false
abbrev ascPf (l : List Rte) : Prop := l.Pairwise fun a b => ltPf a.pf b.pf
/-- valid tables whose prefixes ascend -/
structure ActOk (l : List Rte) : Prop where
  tab : TabOk l
  asc : ascPf l
theorem act_all : ∀ (l : List Rte) (p : Option Pfx), ascPf l → (∀ q, p = some q → ∀ x ∈ l, ltPf q x.pf) → actGo p l = l
  | [], p, _, _ => rfl
  | y :: l, p, h, hp => by
    obtain ⟨h1, h2⟩ := List.pairwise_cons.1 h
    simp only [actGo]
    have hc : ¬ p = some y.pf := fun e => (hp _ e y (List.mem_cons_self ..)).irr
    rw [if_neg hc, act_all l (some y.pf) h2 fun q hq x hx => by cases hq; exact h1 x hx]; rfl
theorem ActOk.list {l : List Rte} (h : ActOk l) : listF l = l := by
  have he : activeF l = l := by
    unfold activeF
    rw [if_neg (by simp [(check_iff l).2 h.tab]), act_all l none h.asc fun q hq => by cases hq]
  unfold listF
  rw [he, if_neg (by omega)]
end Go.Pl
/- Lists of prefixes, ascending, each once; changes between lists of active routes. No program in sight. -/
namespace Go.Pl
open Go Go.RT
set_option linter.all false
end Go.Pl
/- Hops of routes within an area: their order, lists of them, ascending and each once. No program in sight. -/
namespace Go.Pl
open Go Go.RT Go.Sort Go.Shelf Go.Proofs
set_option linter.all false
structure IHop where
  ifc : Int
  ad : Int
  ro : Int
  deriving DecidableEq
instance : Inhabited IHop := ⟨⟨0, 0, 0⟩⟩
def encIh (h : IHop) : List FV := [If .i64 h.ifc, If .u32 h.ad, If .u32 h.ro]
def vIh (h : IHop) : List Value := [.int .i64 h.ifc, .int .u32 h.ad, .int .u32 h.ro]
abbrev VIh (l : List IHop) : FV := .vals 3 (l.map encIh)
abbrev OIh (l : List IHop) : Option Ob := some (.flat 3 (l.map encIh))
def cmpIh (a b : IHop) : Int := fst3 (cmpI a.ifc b.ifc) (cmpI a.ad b.ad) (cmpI a.ro b.ro)
def ltIh (a b : IHop) : Prop := a.ifc < b.ifc ∨ a.ifc = b.ifc ∧ (a.ad < b.ad ∨ a.ad = b.ad ∧ a.ro < b.ro)
instance (a b : IHop) : Decidable (ltIh a b) := by unfold ltIh; infer_instance
def eqIh (a b : IHop) : Bool := decide (a = b)
theorem IHop.ext' {a b : IHop} (h1 : a.ifc = b.ifc) (h2 : a.ad = b.ad) (h3 : a.ro = b.ro) : a = b := by
  cases a; cases b; simp only at h1 h2 h3; subst h1; subst h2; subst h3; rfl
theorem cmpI_ng (a b : Int) : cmpI a b < 0 ↔ a < b := by unfold cmpI; split <;> (try split) <;> omega
theorem cmpI_nz (a b : Int) : cmpI a b ≠ 0 ↔ a ≠ b := by unfold cmpI; split <;> (try split) <;> omega
theorem cmpIh_neg (a b : IHop) : cmpIh a b < 0 ↔ ltIh a b := by
  unfold cmpIh ltIh fst3
  by_cases h1 : a.ifc = b.ifc
  · rw [if_neg (by rw [cmpI_nz]; exact fun k => k h1)]
    by_cases h2 : a.ad = b.ad
    · rw [if_neg (by rw [cmpI_nz]; exact fun k => k h2), cmpI_ng]; omega
    · rw [if_pos (by rw [cmpI_nz]; exact h2), cmpI_ng]; omega
  · rw [if_pos (by rw [cmpI_nz]; exact h1), cmpI_ng]; omega
theorem ltIh.irr {a : IHop} : ¬ ltIh a a := by unfold ltIh; omega
theorem ltIh.trans {a b c : IHop} (h : ltIh a b) (k : ltIh b c) : ltIh a c := by unfold ltIh at *; omega
theorem ih_tri (a b : IHop) : ltIh a b ∨ a = b ∨ ltIh b a := by
  by_cases h : a = b
  · exact .inr (.inl h)
  · have : ¬ (a.ifc = b.ifc ∧ a.ad = b.ad ∧ a.ro = b.ro) := fun ⟨h1, h2, h3⟩ => h (IHop.ext' h1 h2 h3)
    unfold ltIh; omega
theorem ltIh_iff (a b : IHop) : ltOf cmpIh a b = decide (ltIh a b) := by
  unfold ltOf; rw [Bool.eq_iff_iff, decide_eq_true_iff, decide_eq_true_iff, cmpIh_neg]
theorem swo_ih : Go.Sort.SWO (ltOf cmpIh) where
  irrefl x := by rw [ltIh_iff]; simp only [decide_eq_false_iff_not]; exact fun k => k.irr
  trans x y z h1 h2 := by rw [ltIh_iff] at *; simp only [decide_eq_true_eq] at *; exact h1.trans h2
  ntrans x y z h1 h2 := by rw [ltIh_iff] at *; simp only [decide_eq_false_iff_not] at *; unfold ltIh at *; omega
abbrev ascHp (l : List IHop) : Prop := l.Pairwise ltIh
theorem ascHp_uniq : ∀ {a b : List IHop}, ascHp a → ascHp b → (∀ x, x ∈ a ↔ x ∈ b) → a = b
  | [], [], _, _, _ => rfl
  | [], y :: b, _, _, h => by have := (h y).2 (List.mem_cons_self ..); simp at this
  | x :: a, [], _, _, h => by have := (h x).1 (List.mem_cons_self ..); simp at this
  | x :: a, y :: b, ha, hb, h => by
    obtain ⟨a1, a2⟩ := List.pairwise_cons.1 ha
    obtain ⟨b1, b2⟩ := List.pairwise_cons.1 hb
    have e : x = y := by
      rcases List.mem_cons.1 ((h x).1 (List.mem_cons_self ..)) with e | e
      · exact e
      · rcases List.mem_cons.1 ((h y).2 (List.mem_cons_self ..)) with e2 | e2
        · exact e2.symm
        · exact absurd ((b1 x e).trans (a1 y e2)) ltIh.irr
    subst e
    refine congrArg (x :: ·) (ascHp_uniq a2 b2 fun z => ⟨fun hz => ?_, fun hz => ?_⟩)
    · rcases List.mem_cons.1 ((h z).1 (List.mem_cons_of_mem _ hz)) with e | e
      · subst e; exact absurd (a1 z hz) ltIh.irr
      · exact e
    · rcases List.mem_cons.1 ((h z).2 (List.mem_cons_of_mem _ hz)) with e | e
      · subst e; exact absurd (b1 z hz) ltIh.irr
      · exact e
/-! ## the reference's insertion -/
/-- Add: d: the hop is there already -/
def addGo (h : IHop) : Bool → List IHop → List IHop
  | d, [] => if d = true then [] else [h]
  | d, x :: l => if (d || decide (x = h)) = true then x :: addGo h true l else if ltIh h x then h :: x :: addGo h true l else x :: addGo h false l
def addH (l : List IHop) (h : IHop) : List IHop := addGo h false l
theorem addGo_true (h : IHop) : ∀ l, addGo h true l = l
  | [] => rfl
  | x :: l => by simp [addGo, addGo_true h l]
theorem addGo_mem (h y : IHop) : ∀ l, y ∈ addGo h false l ↔ y = h ∨ y ∈ l
  | [] => by simp [addGo]
  | x :: l => by
    simp only [addGo, Bool.false_or, decide_eq_true_eq]
    by_cases e : x = h
    · rw [if_pos e, addGo_true, ← e]; simp
    · rw [if_neg e]
      by_cases e2 : ltIh h x
      · rw [if_pos e2, addGo_true]; simp
      · rw [if_neg e2, List.mem_cons, addGo_mem h y l, List.mem_cons]
        exact ⟨fun k => k.elim (fun k => .inr (.inl k)) (fun k => k.elim .inl (fun k => .inr (.inr k))), fun k => k.elim (fun k => .inr (.inl k)) (fun k => k.elim .inl (fun k => .inr (.inr k)))⟩
theorem addGo_asc (h : IHop) : ∀ l, ascHp l → ascHp (addGo h false l)
  | [], _ => by simp [addGo]
  | x :: l, hl => by
    obtain ⟨h1, h2⟩ := List.pairwise_cons.1 hl
    simp only [addGo, Bool.false_or, decide_eq_true_eq]
    by_cases e : x = h
    · rw [if_pos e, addGo_true]; exact hl
    · rw [if_neg e]
      by_cases e2 : ltIh h x
      · rw [if_pos e2, addGo_true]
        refine List.pairwise_cons.2 ⟨fun y hy => ?_, hl⟩
        rcases List.mem_cons.1 hy with rfl | hy
        · exact e2
        · exact e2.trans (h1 y hy)
      · rw [if_neg e2]
        refine List.pairwise_cons.2 ⟨fun y hy => ?_, addGo_asc h l h2⟩
        rcases (addGo_mem h y l).1 hy with rfl | hy
        · rcases ih_tri y x with k | k | k
          · exact absurd k e2
          · exact absurd k.symm e
          · exact k
        · exact h1 y hy
def sortH (l : List IHop) : List IHop := l.foldl addH []
theorem foldH : ∀ (l o : List IHop), ascHp o → ascHp (l.foldl addH o) ∧ ∀ x, x ∈ l.foldl addH o ↔ x ∈ l ∨ x ∈ o
  | [], o, ho => ⟨ho, by simp⟩
  | h :: l, o, ho => by
    obtain ⟨h1, h2⟩ := foldH l (addH o h) (addGo_asc h o ho)
    refine ⟨h1, fun x => ?_⟩
    rw [List.foldl_cons, h2, addH, addGo_mem, List.mem_cons]
    exact ⟨fun k => k.elim (fun k => .inl (.inr k)) (fun k => k.elim (fun k => .inl (.inl k)) .inr), fun k => k.elim (fun k => k.elim (fun k => .inr (.inl k)) .inl) (fun k => .inr (.inr k))⟩
theorem sortH_asc (l : List IHop) : ascHp (sortH l) := (foldH l [] List.Pairwise.nil).1
theorem sortH_mem (l : List IHop) (x : IHop) : x ∈ sortH l ↔ x ∈ l := by have := (foldH l [] List.Pairwise.nil).2 x; simpa [sortH] using this
theorem sortH_uniq {a l : List IHop} (h1 : ascHp a) (h2 : ∀ x, x ∈ a ↔ x ∈ l) : a = sortH l := ascHp_uniq h1 (sortH_asc l) fun x => (h2 x).trans (sortH_mem l x).symm
/-- Merge -/
def mergeH (a b : List IHop) : List IHop := sortH (a ++ b)
theorem mergeH_asc (a b : List IHop) : ascHp (mergeH a b) := sortH_asc _
theorem mergeH_mem (a b : List IHop) (x : IHop) : x ∈ mergeH a b ↔ x ∈ a ∨ x ∈ b := by unfold mergeH; rw [sortH_mem, List.mem_append]
theorem mergeH_comm (a b : List IHop) : mergeH a b = mergeH b a := ascHp_uniq (mergeH_asc a b) (mergeH_asc b a) fun x => by rw [mergeH_mem, mergeH_mem]; exact Or.comm
theorem mergeH_assoc (a b c : List IHop) : mergeH (mergeH a b) c = mergeH a (mergeH b c) :=
  ascHp_uniq (mergeH_asc _ _) (mergeH_asc _ _) fun x => by simp only [mergeH_mem]; exact or_assoc
theorem mergeH_self (a : List IHop) : mergeH a a = mergeH a [] := ascHp_uniq (mergeH_asc _ _) (mergeH_asc _ _) fun x => by simp [mergeH_mem]
theorem mergeH_fold (a b : List IHop) : b.foldl addH (a.foldl addH []) = mergeH a b := by unfold mergeH sortH; rw [List.foldl_append]
/-! ## the library's sort and compaction -/
def srtIh (l : List IHop) : List IHop := sortBy cmpIh l
theorem srtIh_len (l : List IHop) : (srtIh l).length = l.length := (sortBy_spec cmpIh swo_ih l).2.1
def leIh (a b : IHop) : Prop := a = b ∨ ltIh a b
theorem ddI : ∀ (l : List IHop) (p : IHop), (p :: l).Pairwise leIh → ascHp (p :: ddF eqIh p l) ∧ ∀ x, x ∈ p :: ddF eqIh p l ↔ x ∈ p :: l
  | [], p, _ => by simp [ddF]
  | y :: l, p, h => by
    obtain ⟨h1, h2⟩ := List.pairwise_cons.1 h
    obtain ⟨i1, i2⟩ := ddI l y h2
    simp only [ddF]
    by_cases e : y = p
    · subst e
      rw [show eqIh y y = true by simp [eqIh], cond_true]
      refine ⟨i1, fun x => ?_⟩
      rw [i2]; simp
    · rw [show eqIh y p = false by simp [eqIh, e], cond_false]
      refine ⟨List.pairwise_cons.2 ⟨fun z hz => ?_, i1⟩, fun x => ?_⟩
      · have hy : ltIh p y := (h1 y (List.mem_cons_self ..)).resolve_left fun k => e k.symm
        rcases List.mem_cons.1 ((i2 z).1 hz) with rfl | hz'
        · exact hy
        · rcases (List.pairwise_cons.1 h2).1 z hz' with rfl | k
          · exact hy
          · exact hy.trans k
      · rw [List.mem_cons, i2, List.mem_cons, List.mem_cons, List.mem_cons]
theorem srtIh_comp (l : List IHop) : compL eqIh (srtIh l) = sortH l := by
  obtain ⟨h1, h2, h3⟩ := sortBy_spec cmpIh swo_ih l
  have hp : (srtIh l).Pairwise leIh := by
    rw [List.pairwise_iff_getElem]
    intro i j hi hj hij
    have := h3 i j _ _ hij (List.getElem?_eq_getElem hi) (List.getElem?_eq_getElem hj)
    rw [cmpIh_neg] at this
    rcases ih_tri (srtIh l)[i] (srtIh l)[j] with k | k | k
    · exact .inr k
    · exact .inl k
    · exact absurd k this
  have hm : ∀ x, x ∈ srtIh l ↔ x ∈ l := fun x => h1.mem_iff
  generalize srtIh l = s at hp hm
  cases s with
  | nil => exact sortH_uniq List.Pairwise.nil hm
  | cons p t =>
    obtain ⟨k1, k2⟩ := ddI t p hp
    exact sortH_uniq k1 fun x => (k2 x).trans (hm x)
theorem eqFs_encIh (a b : IHop) : eqFs (encIh a) (encIh b) = decide (a = b) := by
  obtain ⟨a1, a2, a3⟩ := a; obtain ⟨b1, b2, b3⟩ := b
  simp only [encIh, eqFs, IHop.mk.injEq]
  rw [Bool.eq_iff_iff]
  simp [If]
/-! ## how many hops there are -/
theorem nodup_le {α : Type} [DecidableEq α] : ∀ {a b : List α}, a.Nodup → (∀ x ∈ a, x ∈ b) → a.length ≤ b.length
  | [], b, _, _ => Nat.zero_le _
  | x :: a, b, hn, h => by
    obtain ⟨h1, h2⟩ := List.nodup_cons.1 hn
    have hx := h x (List.mem_cons_self ..)
    have := nodup_le (a := a) (b := b.erase x) h2 fun y hy => (List.mem_erase_of_ne (fun e => h1 (by rw [← e]; exact hy))).2 (h y (List.mem_cons_of_mem _ hy))
    rw [List.length_erase_of_mem hx] at this
    have : 0 < b.length := List.length_pos_of_mem hx
    simp only [List.length_cons]; omega
theorem ascHp.nodup {l : List IHop} (h : ascHp l) : l.Nodup := List.Pairwise.imp (fun {a b} k e => by subst e; exact ltIh.irr k) h
theorem sortH_le {l b : List IHop} (h : ∀ x ∈ l, x ∈ b) : (sortH l).length ≤ b.length := nodup_le (sortH_asc l).nodup fun x hx => h x ((sortH_mem l x).1 hx)
theorem sortH_len (l : List IHop) : (sortH l).length ≤ l.length := sortH_le fun _ h => h
end Go.Pl
/- Advertisements and what the functions on them compute. No program in sight. -/
namespace Go.Pl
open Go Go.RT
set_option linter.all false
structure Hdr where
  ty : Int
  id : Int
  ln : Int
  rt : Int
  sq : Int
  ag : Int
  sm : Int
  deriving DecidableEq
structure Lnk where
  k : Int
  id : Int
  d : Int
  c : Int
  deriving DecidableEq
structure Lsa where
  h : Hdr
  bo : Bool
  bd : Bool
  ls : List Lnk
  att : List Int
  co : Int
  se : Bool
  fw : Int
  tg : Int
  deriving DecidableEq
structure KeyA where
  ty : Int
  id : Int
  ln : Int
  rt : Int
  deriving DecidableEq
structure NetV where
  id : Int
  rt : Int
  ln : Int
  deriving DecidableEq
structure AGr where
  g : Gr
  rs : List Int
  ns : List NetV
  deriving DecidableEq
def encH (h : Hdr) : List FV := [If .i64 h.ty, If .u32 h.id, If .i64 h.ln, If .u32 h.rt, If .i64 h.sq, If .i64 h.ag, If .i64 h.sm]
def encL (x : Lnk) : List FV := [If .i64 x.k, If .u32 x.id, If .u32 x.d, If .i64 x.c]
def encU (x : Int) : List FV := [If .u32 x]
def encK (x : KeyA) : List FV := [If .i64 x.ty, If .u32 x.id, If .i64 x.ln, If .u32 x.rt]
def encV (x : NetV) : List FV := [If .u32 x.id, If .u32 x.rt, If .i64 x.ln]
abbrev VL (l : List Lnk) : FV := .vals 4 (l.map encL)
abbrev VU (l : List Int) : FV := .vals 1 (l.map encU)
abbrev VV (l : List NetV) : FV := .vals 3 (l.map encV)
def encA (l : Lsa) : List FV := [If .i64 l.h.ty, If .u32 l.h.id, If .i64 l.h.ln, If .u32 l.h.rt, If .i64 l.h.sq, If .i64 l.h.ag, If .i64 l.h.sm, Bf l.bo, Bf l.bd, VL l.ls, VU l.att, If .i64 l.co, Bf l.se, If .u32 l.fw, If .i64 l.tg]
abbrev VA (l : List Lsa) : FV := .vals 15 (l.map encA)
def encR (a : AGr) : List FV := [If .i64 a.g.r, If .i64 a.g.n, VE a.g.es, VU a.rs, VV a.ns]
def okH (h : Hdr) : Prop := inr .i64 h.ty ∧ inr .u32 h.id ∧ inr .i64 h.ln ∧ inr .u32 h.rt ∧ inr .i64 h.sq ∧ inr .i64 h.ag ∧ inr .i64 h.sm
def okK (x : Lnk) : Prop := inr .i64 x.k ∧ inr .u32 x.id ∧ inr .u32 x.d ∧ inr .i64 x.c
def okU (x : Int) : Prop := inr .u32 x
def okA (l : Lsa) : Prop := okH l.h ∧ (∀ x ∈ l.ls, okK x) ∧ (∀ x ∈ l.att, okU x) ∧ inr .i64 l.co ∧ inr .u32 l.fw ∧ inr .i64 l.tg
def okV (x : NetV) : Prop := inr .u32 x.id ∧ inr .u32 x.rt ∧ inr .i64 x.ln
theorem ifT {α : Type} {b : Bool} {x y : α} (h : b = true) : (if b = true then x else y) = x := if_pos h
theorem ifF {α : Type} {b : Bool} {x y : α} (h : b = false) : (if b = true then x else y) = y := if_neg (by rw [h]; decide)
/-- the functions of the reference -/
def inB (n lo hi : Int) : Bool := decide (lo ≤ n) && decide (n ≤ hi)
def bitA (id : Int) (i : Nat) : Bool := decide (id.toNat / 2 ^ (31 - i) % 2 = 1)
def fitsB (id n : Int) : Bool := !(decide (n < 0) || decide (32 < n)) && (List.range 32).all fun i => decide ((i : Int) < n) || !bitA id i
def headI (h : Hdr) : Int :=
  if (!inB h.ty 1 5) = true then 15 else
  if (decide (h.rt = 0) || !inB h.sq 1 2147483647 || !inB h.ag 0 3600 || !inB h.sm 0 65535) = true then 5 else
  if (if (decide (h.ty = 1) || decide (h.ty = 4)) = true then decide (h.ln ≠ 0) else !inB h.ln 0 32) = true then 5 else
  if (decide (h.ty = 1) && decide (h.id ≠ h.rt)) = true then 14 else
  if ((decide (h.ty = 3) || decide (h.ty = 5)) && !fitsB h.id h.ln) = true then 1 else
  if ((decide (h.ty = 2) || decide (h.ty = 4)) && decide (h.id = 0)) = true then 1 else 0
def lnkI (a b : Lnk) : Int := if a.k ≠ b.k then cmpI a.k b.k else if a.id ≠ b.id then cmpI a.id b.id else cmpI a.d b.d
def keyI (a b : KeyA) : Int := if a.ty ≠ b.ty then cmpI a.ty b.ty else if a.id ≠ b.id then cmpI a.id b.id else if a.ln ≠ b.ln then cmpI a.ln b.ln else cmpI a.rt b.rt
def keyA (h : Hdr) : KeyA := ⟨h.ty, h.id, h.ln, h.rt⟩
/-- the error of a link by itself -/
def linkE (r : Int) (x : Lnk) : Int :=
  if (!inB x.k 1 3) = true then 15 else
  if (!inB x.c 1 65535) = true then 5 else
  if (decide (x.k = 1) && (decide (x.id = 0) || decide (x.id = r))) = true then 1 else
  if (decide (x.k = 3) && (decide (32 < x.d) || !fitsB x.id x.d)) = true then 1 else 0
/-- the first error from place i on -/
def linksGo (r : Int) : Option Lnk → List Lnk → Int
  | _, [] => 0
  | p, x :: l => if linkE r x ≠ 0 then linkE r x else if (match p with | none => false | some q => decide (0 ≤ lnkI q x)) = true then 16 else linksGo r (some x) l
def linksI (l : Lsa) : Int := if 64 < l.ls.length then 4 else linksGo l.h.rt none l.ls
def attGo : Option Int → List Int → Bool
  | _, [] => true
  | p, x :: l => if (decide (x = 0) || (match p with | none => false | some q => decide (x ≤ q))) = true then false else attGo (some x) l
def attI (l : Lsa) : Int := if 64 < l.att.length then 4 else if attGo none l.att = false then 16 else if l.att.contains l.h.rt then 0 else 14
def unusedB (l : Lsa) : Bool :=
  if (decide (l.h.ty ≠ 1) && (l.bo || l.bd || decide (0 < (l.ls.length : Int)))) = true then false else
  if (decide (l.h.ty ≠ 2) && decide (0 < (l.att.length : Int))) = true then false else
  if (decide (l.h.ty < 3) && decide (l.co ≠ 0)) = true then false else
  (decide (l.h.ty = 5) || (!l.se && decide (l.fw = 0) && decide (l.tg = 0)))
def chkA (l : Lsa) : Int :=
  if headI l.h ≠ 0 then headI l.h else
  if (!unusedB l) = true then 1 else
  if l.h.ty = 1 then linksI l else
  if l.h.ty = 2 then attI l else
  if (!inB l.co 0 16777216 || !inB l.tg 0 4294967295) = true then 5 else 0
open Go.RT
def prevG {α : Type} (l : List α) (i : Nat) : Option α := if i = 0 then none else l[i - 1]?
theorem prevG_succ {α : Type} {l : List α} {i : Nat} (h : i < l.length) : prevG l (i + 1) = some l[i] := by simp [prevG, h]
def badL : Option Lnk → Lnk → Bool
  | none, _ => false
  | some q, x => decide (0 ≤ lnkI q x)
def badU : Option Int → Int → Bool
  | none, _ => false
  | some q, x => decide (x ≤ q)
theorem links_step {r : Int} {l : List Lnk} {i : Nat} (h : i < l.length) : linksGo r (prevG l i) (l.drop i) = if linkE r l[i] ≠ 0 then linkE r l[i] else if badL (prevG l i) l[i] = true then 16 else linksGo r (prevG l (i + 1)) (l.drop (i + 1)) := by
  rw [List.drop_eq_getElem_cons h, prevG_succ h]
  conv => lhs; unfold linksGo
  cases hp : prevG l i <;> rfl
theorem att_step {l : List Int} {i : Nat} (h : i < l.length) : attGo (prevG l i) (l.drop i) = if (decide (l[i] = 0) || badU (prevG l i) l[i]) = true then false else attGo (prevG l (i + 1)) (l.drop (i + 1)) := by
  rw [List.drop_eq_getElem_cons h, prevG_succ h]
  conv => lhs; unfold attGo
  cases hp : prevG l i <;> rfl
end Go.Pl
/- Encodings of advertisements and their sums. No program in sight. -/
namespace Go.Pl
open Go Go.RT
set_option linter.all false
def encY (x : Int) : List FV := [If .u8 x]
abbrev VY (l : List Int) : FV := .vals 1 (l.map encY)
abbrev OY (l : List Int) : Option Ob := some (.flat 1 (l.map encY))
abbrev w64 (a : Int) : Int := IntKind.u64.wrap a
theorem w64_ok (a : Int) : inr .u64 (w64 a) := by
  simp only [w64, IntKind.wrap, IntKind.bits, IntKind.signed, inr]
  simp
  omega
theorem w8_ok (a : Int) : inr .u8 (IntKind.u8.wrap a) := by
  simp only [IntKind.wrap, IntKind.bits, IntKind.signed, inr]
  simp
  omega
def byteAt (x : Int) (i : Nat) : Int := IntKind.u8.wrap ((x.toNat / 2 ^ (8 * i) : Nat) : Int)
def putB : Nat → Int → List Int
  | 0, _ => []
  | n + 1, x => byteAt x n :: putB n x
theorem putB_len (x : Int) : ∀ n, (putB n x).length = n
  | 0 => rfl
  | n + 1 => by simp [putB, putB_len x n]
theorem putB_ok (x : Int) : ∀ n, ∀ y ∈ putB n x, inr .u8 y
  | 0, y, h => by simp [putB] at h
  | n + 1, y, h => by
    rcases List.mem_cons.1 h with rfl | h
    · exact w8_ok _
    · exact putB_ok x n y h
def flagI (a b : Bool) : Int := (if a then 1 else 0) + (if b then 2 else 0)
theorem flagI_ok (a b : Bool) : inr .u64 (flagI a b) := by cases a <;> cases b <;> simp [flagI, inr]
def hdrB (h : Hdr) : List Int := putB 2 (w64 h.ag) ++ putB 1 (w64 h.ty) ++ putB 1 (w64 h.ln) ++ putB 4 (w64 h.id) ++ putB 4 (w64 h.rt) ++ putB 4 (w64 h.sq) ++ putB 2 (w64 h.sm)
def linkB (x : Lnk) : List Int := putB 1 (w64 x.k) ++ putB 4 (w64 x.id) ++ putB 4 (w64 x.d) ++ putB 2 (w64 x.c)
def bodyB (l : Lsa) : List Int :=
  if l.h.ty = 1 then putB 1 (flagI l.bo l.bd) ++ putB 1 (w64 (l.ls.length : Int)) ++ l.ls.flatMap linkB else
  if l.h.ty = 2 then putB 1 (w64 (l.att.length : Int)) ++ l.att.flatMap (fun x => putB 4 (w64 x)) else
  if l.h.ty = 3 ∨ l.h.ty = 4 then putB 4 (w64 l.co) else
  if l.h.ty = 5 then putB 1 (flagI l.se false) ++ putB 4 (w64 l.co) ++ putB 4 (w64 l.fw) ++ putB 4 (w64 l.tg) else []
theorem linkB_len (x : Lnk) : (linkB x).length = 11 := by simp [linkB, putB_len]
theorem hdrB_len (h : Hdr) : (hdrB h).length = 18 := by simp [hdrB, putB_len]
theorem flat_len {α : Type} (f : α → List Int) (k : Nat) (h : ∀ x, (f x).length = k) : ∀ l : List α, (l.flatMap f).length = l.length * k
  | [] => by simp
  | x :: l => by simp [flat_len f k h l, h x, Nat.add_mul]; omega
theorem flat_take {α : Type} (f : α → List Int) {l : List α} {i : Nat} (h : i < l.length) : (l.take (i + 1)).flatMap f = (l.take i).flatMap f ++ f l[i] := by
  rw [List.take_succ_eq_append_getElem h, List.flatMap_append]; simp
theorem bodyB_len {l : Lsa} (h1 : l.ls.length ≤ 64) (h2 : l.att.length ≤ 64) : (bodyB l).length ≤ 1000 := by
  unfold bodyB
  split
  · simp only [List.length_append, putB_len, flat_len linkB 11 linkB_len]; omega
  · split
    · simp only [List.length_append, putB_len, flat_len (fun x => putB 4 (w64 x)) 4 (fun x => putB_len _ 4)]; omega
    · split
      · simp [putB_len]
      · split
        · simp [putB_len]
        · simp
def zeroH : Hdr := ⟨0, 0, 0, 0, 0, 0, 0⟩
def zeroA : Lsa := ⟨zeroH, false, false, [], [], 0, false, 0, 0⟩
def okY (l : List Int) : Prop := ∀ y ∈ l, inr .u8 y
theorem okY.app {a b : List Int} (ha : okY a) (hb : okY b) : okY (a ++ b) := fun y h => (List.mem_append.1 h).elim (ha y) (hb y)
theorem okY_flat {α : Type} (f : α → List Int) (h : ∀ x, okY (f x)) (l : List α) : okY (l.flatMap f) := fun y hy => by
  obtain ⟨x, hx, h2⟩ := List.mem_flatMap.1 hy; exact h x y h2
theorem putB_y (n : Nat) (x : Int) : okY (putB n x) := putB_ok x n
theorem hdrB_ok (h : Hdr) : okY (hdrB h) := by
  unfold hdrB
  repeat' apply okY.app
  all_goals exact putB_y _ _
theorem linkB_ok (x : Lnk) : okY (linkB x) := by
  unfold linkB
  repeat' apply okY.app
  all_goals exact putB_y _ _
theorem bodyB_ok (l : Lsa) : okY (bodyB l) := by
  unfold bodyB
  split
  · exact ((putB_y _ _).app (putB_y _ _)).app (okY_flat _ linkB_ok _)
  · split
    · exact (putB_y _ _).app (okY_flat _ (fun x => putB_y _ _) _)
    · split
      · exact putB_y _ _
      · split
        · exact (((putB_y _ _).app (putB_y _ _)).app (putB_y _ _)).app (putB_y _ _)
        · intro y h; simp at h
def bytesB (l : Lsa) : List Int := hdrB l.h ++ putB 2 (w64 ((bodyB l).length : Int)) ++ bodyB l
theorem bytesB_ok (l : Lsa) : okY (bytesB l) := ((hdrB_ok _).app (putB_y _ _)).app (bodyB_ok _)
theorem bytesB_len (l : Lsa) : (bytesB l).length = 20 + (bodyB l).length := by simp [bytesB, hdrB_len, putB_len]; omega
/-- the two sums -/
def sumsG (n : Nat) : Nat → List Int → Int × Int → Int × Int
  | _, [], p => p
  | i, b :: l, p => sumsG n (i + 1) l ((p.1 + b) % 255, (p.2 + ((n : Int) - i) % 255 * b) % 255)
def sumsP (b : List Int) : Int × Int := sumsG b.length 0 b (0, 0)
theorem sums_step {n i : Nat} {l : List Int} {p : Int × Int} (h : i < l.length) : sumsG n i (l.drop i) p = sumsG n (i + 1) (l.drop (i + 1)) ((p.1 + l[i]) % 255, (p.2 + ((n : Int) - i) % 255 * l[i]) % 255) := by
  rw [List.drop_eq_getElem_cons h]; rfl
/-- the test of one value of the first byte -/
def fletQ (s t w : Int) (x : Int) : Bool := decide ((t + w * x + (w + 254) % 255 * (255 - (s + x) % 255)) % 255 = 0)
def fletV (s x : Int) : Int := x * 256 + (255 - (s + x) % 255)
/-- the first value from x on that passes -/
def fletG (s t w : Int) : Nat → Int → Int × Bool
  | 0, _ => (0, false)
  | k + 1, x => if fletQ s t w x = true then (fletV s x, true) else fletG s t w k (x + 1)
theorem fletG_succ (s t w : Int) (k : Nat) (x : Int) : fletG s t w (k + 1) x = if fletQ s t w x = true then (fletV s x, true) else fletG s t w k (x + 1) := rfl
def fletP (b : List Int) (at_ : Nat) : Int × Bool := fletG (sumsP ((b.set at_ 0).set (at_ + 1) 0)).1 (sumsP ((b.set at_ 0).set (at_ + 1) 0)).2 (((b.length : Int) - at_) % 255) 255 1
def sumA (l : Lsa) : Int := (fletP ((bytesB l).drop 2) 14).1
def sealB (l : Lsa) : Bool := decide (l.h.sm = sumA l)
theorem fletG_ok {s t w : Int} (hs : 0 ≤ s ∧ s < 255) : ∀ (k : Nat) (x : Int), 0 ≤ x → x + k ≤ 256 → inr .i64 (fletG s t w k x).1
  | 0, x, h1, h2 => by simp [fletG, inr]
  | k + 1, x, h1, h2 => by
    simp only [fletG]
    split
    · simp only [fletV, inr]; omega
    · exact fletG_ok hs k (x + 1) (by omega) (by omega)
theorem sumsG_ok {n : Nat} : ∀ (l : List Int) (i : Nat) (p : Int × Int), (0 ≤ p.1 ∧ p.1 < 255) ∧ (0 ≤ p.2 ∧ p.2 < 255) → (0 ≤ (sumsG n i l p).1 ∧ (sumsG n i l p).1 < 255) ∧ (0 ≤ (sumsG n i l p).2 ∧ (sumsG n i l p).2 < 255)
  | [], i, p, h => h
  | b :: l, i, p, h => by
    simp only [sumsG]
    refine sumsG_ok l (i + 1) _ ⟨⟨Int.emod_nonneg _ (by decide), Int.emod_lt_of_pos _ (by decide)⟩, ⟨Int.emod_nonneg _ (by decide), Int.emod_lt_of_pos _ (by decide)⟩⟩
theorem sumsP_ok (b : List Int) : (0 ≤ (sumsP b).1 ∧ (sumsP b).1 < 255) ∧ (0 ≤ (sumsP b).2 ∧ (sumsP b).2 < 255) := sumsG_ok _ _ _ ⟨⟨by decide, by decide⟩, by decide, by decide⟩
theorem sumA_ok (l : Lsa) : inr .i64 (sumA l) := fletG_ok (sumsP_ok _).1 255 1 (by decide) (by decide)
open Go.RT
theorem linksI_len {l : Lsa} (h : linksI l = 0) : l.ls.length ≤ 64 := by
  unfold linksI at h
  by_cases h1 : 64 < l.ls.length
  · rw [if_pos h1] at h; cases h
  · omega
theorem attI_len {l : Lsa} (h : attI l = 0) : l.att.length ≤ 64 := by
  unfold attI at h
  by_cases h1 : 64 < l.att.length
  · rw [if_pos h1] at h; cases h
  · omega
theorem unused_ls {l : Lsa} (h : unusedB l = true) (h1 : l.h.ty ≠ 1) : l.ls.length = 0 := by
  unfold unusedB at h
  by_cases c : (decide (l.h.ty ≠ 1) && (l.bo || l.bd || decide (0 < (l.ls.length : Int)))) = true
  · rw [if_pos c] at h; cases h
  · simp [h1] at c; simp [c.2]
theorem unused_att {l : Lsa} (h : unusedB l = true) (h1 : l.h.ty ≠ 2) : l.att.length = 0 := by
  unfold unusedB at h
  split at h
  · cases h
  · by_cases c : (decide (l.h.ty ≠ 2) && decide (0 < (l.att.length : Int))) = true
    · rw [if_pos c] at h; cases h
    · simp [h1] at c; simp [c]
theorem chkA_parts {l : Lsa} (h : chkA l = 0) : headI l.h = 0 ∧ unusedB l = true ∧ (l.h.ty = 1 → linksI l = 0) ∧ (l.h.ty = 2 → attI l = 0) := by
  unfold chkA at h
  by_cases h1 : headI l.h ≠ 0
  · rw [if_pos h1] at h; exact absurd h h1
  · rw [if_neg h1] at h
    by_cases h2 : (!unusedB l) = true
    · rw [if_pos h2] at h; cases h
    · rw [if_neg h2] at h
      refine ⟨by simpa using h1, by simpa using h2, fun h3 => ?_, fun h3 => ?_⟩
      · rw [if_pos h3] at h; exact h
      · rw [if_neg (by omega), if_pos h3] at h; exact h
theorem chkA_len {l : Lsa} (h : chkA l = 0) : l.ls.length ≤ 64 ∧ l.att.length ≤ 64 := by
  obtain ⟨h1, h2, h3, h4⟩ := chkA_parts h
  refine ⟨?_, ?_⟩
  · by_cases c : l.h.ty = 1
    · exact linksI_len (h3 c)
    · rw [unused_ls h2 c]; omega
  · by_cases c : l.h.ty = 2
    · exact attI_len (h4 c)
    · rw [unused_att h2 c]; omega
def sealF (l : Lsa) : Lsa × Int := if chkA l ≠ 0 then (zeroA, chkA l) else ({ l with h := { l.h with sm := sumA l } }, 0)
def badR : Option Lsa → Lsa → Bool
  | none, _ => false
  | some q, x => decide (0 ≤ keyI (keyA q.h) (keyA x.h))
def rowsGo : Option Lsa → List Lsa → Int
  | _, [] => 0
  | p, x :: l => if chkA x ≠ 0 then chkA x else if sealB x = false then 13 else if badR p x = true then 16 else rowsGo (some x) l
def dbI (db : List Lsa) : Int := if 2000 < db.length then 4 else rowsGo none db
theorem rows_step {l : List Lsa} {i : Nat} (h : i < l.length) : rowsGo (prevG l i) (l.drop i) = if chkA l[i] ≠ 0 then chkA l[i] else if sealB l[i] = false then 13 else if badR (prevG l i) l[i] = true then 16 else rowsGo (prevG l (i + 1)) (l.drop (i + 1)) := by
  rw [List.drop_eq_getElem_cons h, prevG_succ h]; rfl
end Go.Pl
/- Graphs of areas: what the small functions compute. No program in sight. -/
namespace Go.Pl
open Go Go.RT
set_option linter.all false
theorem eqFs_encK (a b : KeyA) : eqFs (encK a) (encK b) = decide (a = b) := by
  cases a; cases b
  simp [encK, eqFs, Bool.decide_and, and_assoc]
def cntB (k : Int) (l : Lsa) : Bool := decide (l.h.ty = k) && decide (l.h.ag < 3600)
def cheapGo (k id : Int) : List Lnk → Int × Bool → Int × Bool
  | [], p => p
  | x :: t, p => cheapGo k id t (if ((decide (x.k = k) && decide (x.id = id)) && (!p.2 || decide (x.c < p.1))) = true then (x.c, true) else p)
def cheapF (k id : Int) (l : Lsa) : Int × Bool := cheapGo k id l.ls (0, false)
/-- the place of the first element with a property, or -1 -/
def idxGo {α : Type} (p : α → Bool) : Nat → List α → Int
  | _, [] => -1
  | i, x :: l => if p x = true then (i : Int) else idxGo p (i + 1) l
theorem idx_step {α : Type} {p : α → Bool} {l : List α} {i : Nat} (h : i < l.length) : idxGo p i (l.drop i) = if p l[i] = true then (i : Int) else idxGo p (i + 1) (l.drop (i + 1)) := by
  rw [List.drop_eq_getElem_cons h]; rfl
theorem idx_ge {α : Type} (p : α → Bool) : ∀ (l : List α) (i : Nat), idxGo p i l = -1 ∧ (∀ x ∈ l, p x = false) ∨ ∃ j, ∃ h : j < l.length, idxGo p i l = ((i + j : Nat) : Int) ∧ p l[j] = true ∧ ∀ m, ∀ hm : m < j, p (l[m]'(by omega)) = false
  | [], i => .inl ⟨rfl, by simp⟩
  | x :: l, i => by
    by_cases hx : p x = true
    · exact .inr ⟨0, by simp, by simp [idxGo, hx], by simpa using hx, fun m hm => absurd hm (by omega)⟩
    · have hx' : p x = false := by simpa using hx
      simp only [idxGo, if_neg hx]
      rcases idx_ge p l (i + 1) with ⟨h1, h2⟩ | ⟨j, h, h1, h2, h3⟩
      · exact .inl ⟨h1, fun y hy => by exact (List.mem_cons.1 hy).elim (fun e => e ▸ hx') (h2 y)⟩
      · refine .inr ⟨j + 1, by simpa using h, by rw [h1]; congr 1; omega, by simpa using h2, fun m hm => ?_⟩
        cases m with
        | zero => exact hx'
        | succ m => simpa using h3 m (by omega)
theorem idx_contains {α : Type} [DecidableEq α] (l : List α) (x : α) : decide (0 ≤ idxGo (fun y => decide (x = y)) 0 l) = l.contains x := by
  rcases idx_ge (fun y => decide (x = y)) l 0 with ⟨h1, h2⟩ | ⟨j, h, h1, h2, h3⟩
  · rw [h1]
    have : x ∉ l := fun hx => by have := h2 x hx; simp at this
    simp [this]
  · rw [h1]
    have : x ∈ l := by have h4 : x = l[j] := by simpa using h2
                       rw [h4]; exact List.getElem_mem h
    simp [this]
def stubsL (l : List Lnk) : List Lnk := l.filter fun x => decide (x.k = 3)
end Go.Pl
/- Building the graph of an area: what the program's functions compute. No program in sight. -/
namespace Go.Pl
open Go Go.RT
set_option linter.all false
def cntL (k : Int) (db : List Lsa) : List Lsa := db.filter (cntB k)
theorem cnt_take {k : Int} {l : List Lsa} {i : Nat} (h : i < l.length) : cntL k (l.take (i + 1)) = cntL k (l.take i) ++ if cntB k l[i] = true then [l[i]] else [] := by
  rw [List.take_succ_eq_append_getElem h]
  simp only [cntL, List.filter_append]
  by_cases c : cntB k l[i] = true
  · rw [if_pos c]; simp [c]
  · rw [if_neg c]; simp [c]
theorem cnt_len (k : Int) (l : List Lsa) : (cntL k l).length ≤ l.length := List.length_filter_le _ _
abbrev ekU (n : Int) : FV := If .u32 n
abbrev evI (n : Int) : FV := If .i64 n
/-- the ends of point-to-point links -/
def ptsGo : List Lnk → List (Int × Bool) → List (Int × Bool)
  | [], m => m
  | x :: l, m => ptsGo l (if decide (x.k = 1) = true then mput m x.id true else m)
def ptsM (l : List Lnk) : List (Int × Bool) := ptsGo l []
theorem pts_step {l : List Lnk} {i : Nat} {m : List (Int × Bool)} (h : i < l.length) : ptsGo (l.drop i) m = ptsGo (l.drop (i + 1)) (if decide (l[i].k = 1) = true then mput m l[i].id true else m) := by
  rw [List.drop_eq_getElem_cons h]; rfl
/-- the keys of a map are apart, and words -/
def mOk {ν : Type} (m : List (Int × ν)) : Prop := (m.map (·.1)).Nodup ∧ ∀ p ∈ m, inr .u32 p.1
theorem mOk.put {ν : Type} {m : List (Int × ν)} (h : mOk m) {k : Int} (hk : inr .u32 k) (v : ν) : mOk (mput m k v) :=
  ⟨mput_nodup h.1, fun p hp => by
    rcases mput_keys m k v p hp with e | e
    · rw [e]; exact hk
    · exact h.2 p e⟩
theorem mOk_nil {ν : Type} : mOk ([] : List (Int × ν)) := ⟨List.nodup_nil, fun p h => by simp at h⟩
theorem pts_ok : ∀ (l : List Lnk) (m : List (Int × Bool)), (∀ x ∈ l, okK x) → mOk m → mOk (ptsGo l m)
  | [], m, _, h => h
  | x :: l, m, hl, h => by
    simp only [ptsGo]
    refine pts_ok l _ (fun y hy => hl y (List.mem_cons_of_mem _ hy)) ?_
    split
    · exact h.put (hl x (List.mem_cons_self ..)).2.1 true
    · exact h
abbrev FPts (m : List (Int × Bool)) : FV := FMap ekU Bf m
end Go.Pl
/- Building the graph of an area, continued. No program in sight. -/
namespace Go.Pl
open Go Go.RT
set_option linter.all false
def zeroR : AGr := ⟨zeroG, [], []⟩
def nodesGo : Nat → List Lsa → List (Int × Int) → List (Int × Int)
  | _, [], m => m
  | i, l :: t, m => nodesGo (i + 1) t (mput m l.h.rt (i : Int))
theorem nodes_step {l : List Lsa} {i : Nat} {m : List (Int × Int)} (h : i < l.length) : nodesGo i (l.drop i) m = nodesGo (i + 1) (l.drop (i + 1)) (mput m l[i].h.rt (i : Int)) := by
  rw [List.drop_eq_getElem_cons h]; rfl
def towGo : List Lsa → List (Int × List (Int × Bool)) → List (Int × List (Int × Bool))
  | [], m => m
  | l :: t, m => towGo t (mput m l.h.rt (ptsM l.ls))
theorem tow_step {l : List Lsa} {i : Nat} {m : List (Int × List (Int × Bool))} (h : i < l.length) : towGo (l.drop i) m = towGo (l.drop (i + 1)) (mput m l[i].h.rt (ptsM l[i].ls)) := by
  rw [List.drop_eq_getElem_cons h]; rfl
def netOf (l : Lsa) : NetV := ⟨l.h.id, l.h.rt, l.h.ln⟩
def netE (R i : Nat) (rt : Int) (x : Lnk) : Nat → List Lsa → List Edg
  | _, [] => []
  | k, n :: t => (if (decide (n.h.id = x.id) && n.att.contains rt) = true then [⟨i, (R : Int) + k, x.c⟩, ⟨(R : Int) + k, i, 0⟩] else []) ++ netE R i rt x (k + 1) t
def lnkE (nm : List (Int × Int)) (tm : List (Int × List (Int × Bool))) (R : Nat) (ns : List Lsa) (i : Nat) (rt : Int) (x : Lnk) : List Edg :=
  if ((decide (x.k = 1) && (mget nm x.id).isSome) && (mget ((mget tm x.id).getD []) rt).getD false) = true then [⟨i, (mget nm x.id).getD 0, x.c⟩] else
  if decide (x.k = 2) = true then netE R i rt x 0 ns else []
def rowE (nm : List (Int × Int)) (tm : List (Int × List (Int × Bool))) (R : Nat) (ns : List Lsa) : Nat → List Lsa → List Edg
  | _, [] => []
  | i, l :: t => l.ls.flatMap (lnkE nm tm R ns i l.h.rt) ++ rowE nm tm R ns (i + 1) t
def edgesG (rs ns : List Lsa) : List Edg := rowE (nodesGo 0 rs []) (towGo rs []) rs.length ns 0 rs
def buildG (rs ns : List Lsa) : AGr × Int :=
  if (ofF (rs.length : Int) (ns.length : Int) (edgesG rs ns)).2 ≠ 0 then (zeroR, (ofF (rs.length : Int) (ns.length : Int) (edgesG rs ns)).2)
  else (⟨(ofF (rs.length : Int) (ns.length : Int) (edgesG rs ns)).1, rs.map fun l => l.h.rt, ns.map netOf⟩, 0)
/-- area.Build -/
def buildF (db : List Lsa) : AGr × Int := buildG (cntL 1 db) (cntL 2 db)
theorem mput_vals {ν : Type} : ∀ (m : List (Int × ν)) (k : Int) (v : ν) (p : Int × ν), p ∈ mput m k v → p.2 = v ∨ p ∈ m
  | [], k, v, p, h => by simp [mput] at h; subst h; exact .inl rfl
  | q :: r, k, v, p, h => by
    simp only [mput] at h
    by_cases hq : q.1 = k
    · rw [if_pos hq] at h
      rcases List.mem_cons.1 h with rfl | h
      · exact .inl rfl
      · exact .inr (List.mem_cons_of_mem _ h)
    · rw [if_neg hq] at h
      rcases List.mem_cons.1 h with rfl | h
      · exact .inr (List.mem_cons_self ..)
      · exact (mput_vals r k v p h).imp id (List.mem_cons_of_mem _)
theorem mget_mem {ν : Type} : ∀ {m : List (Int × ν)} {k : Int} {v : ν}, mget m k = some v → (k, v) ∈ m
  | p :: r, k, v, h => by
    simp only [mget] at h
    by_cases hp : p.1 = k
    · rw [if_pos hp] at h; cases h; subst hp; exact List.mem_cons_self ..
    · rw [if_neg hp] at h; exact List.mem_cons_of_mem _ (mget_mem h)
open Go.RT
theorem row_step {nm : List (Int × Int)} {tm : List (Int × List (Int × Bool))} {R : Nat} {ns l : List Lsa} {i : Nat} (h : i < l.length) : rowE nm tm R ns i (l.drop i) = l[i].ls.flatMap (lnkE nm tm R ns i l[i].h.rt) ++ rowE nm tm R ns (i + 1) (l.drop (i + 1)) := by
  rw [List.drop_eq_getElem_cons h]; rfl
theorem net_step {R i : Nat} {rt : Int} {x : Lnk} {l : List Lsa} {k : Nat} (h : k < l.length) : netE R i rt x k (l.drop k) = (if (decide (l[k].h.id = x.id) && l[k].att.contains rt) = true then [⟨i, (R : Int) + k, x.c⟩, ⟨(R : Int) + k, i, 0⟩] else []) ++ netE R i rt x (k + 1) (l.drop (k + 1)) := by
  rw [List.drop_eq_getElem_cons h]; rfl
theorem flatMap_step {α β : Type} (f : α → List β) {l : List α} {j : Nat} (h : j < l.length) : (l.drop j).flatMap f = f l[j] ++ (l.drop (j + 1)).flatMap f := by
  rw [List.drop_eq_getElem_cons h]; rfl
theorem netE_len (R i : Nat) (rt : Int) (x : Lnk) : ∀ (l : List Lsa) (k : Nat), (netE R i rt x k l).length ≤ 2 * l.length
  | [], k => by simp [netE]
  | n :: l, k => by
    have := netE_len R i rt x l (k + 1)
    simp only [netE, List.length_append, List.length_cons]
    split <;> simp <;> omega
theorem lnkE_len {nm : List (Int × Int)} {tm : List (Int × List (Int × Bool))} {R : Nat} {ns : List Lsa} {i : Nat} {rt : Int} (hn : ns.length ≤ 400) (x : Lnk) : (lnkE nm tm R ns i rt x).length ≤ 800 := by
  unfold lnkE
  split
  · simp
  · split
    · exact Nat.le_trans (netE_len ..) (by omega)
    · simp
theorem flatMap_le {α β : Type} (f : α → List β) (b : Nat) (h : ∀ x, (f x).length ≤ b) : ∀ l : List α, (l.flatMap f).length ≤ l.length * b
  | [] => by simp
  | x :: l => by
    have h1 := flatMap_le f b h l
    have h2 := h x
    simp only [List.flatMap_cons, List.length_append, List.length_cons, Nat.add_mul]; omega
theorem rowE_len {nm : List (Int × Int)} {tm : List (Int × List (Int × Bool))} {R : Nat} {ns : List Lsa} (hn : ns.length ≤ 400) : ∀ (l : List Lsa) (i : Nat), (∀ x ∈ l, x.ls.length ≤ 64) → (rowE nm tm R ns i l).length ≤ l.length * 51200
  | [], i, _ => by simp [rowE]
  | x :: l, i, h => by
    have h1 := rowE_len (nm := nm) (tm := tm) (R := R) hn l (i + 1) (fun y hy => h y (List.mem_cons_of_mem _ hy))
    have h2 := flatMap_le (lnkE nm tm R ns i x.h.rt) 800 (fun y => lnkE_len hn y) x.ls
    have h3 := h x (List.mem_cons_self ..)
    have h4 : x.ls.length * 800 ≤ 64 * 800 := Nat.mul_le_mul_right _ h3
    simp only [rowE, List.length_append, List.length_cons, Nat.add_mul]; omega
open Go.RT
theorem netE_ok {R i : Nat} (hR : R ≤ 400) (hi : i ≤ 400) {rt : Int} {x : Lnk} (hx : okK x) : ∀ (l : List Lsa) (k : Nat), k + l.length ≤ 400 → okEs (netE R i rt x k l)
  | [], k, _ => fun e he => by simp [netE] at he
  | n :: l, k, h => fun e he => by
    simp only [List.length_cons] at h
    simp only [netE] at he
    rcases List.mem_append.1 he with he | he
    · split at he
      · rcases List.mem_cons.1 he with rfl | he
        · refine ⟨?_, ?_, hx.2.2.2⟩ <;> simp only [inr] <;> omega
        · have := List.mem_singleton.1 he
          subst this
          refine ⟨?_, ?_, ?_⟩ <;> simp only [inr] <;> omega
      · simp at he
    · exact netE_ok hR hi hx l (k + 1) (by omega) e he
theorem lnkE_ok {nm : List (Int × Int)} {tm : List (Int × List (Int × Bool))} {R : Nat} {ns : List Lsa} {i : Nat} {rt : Int} (hR : R ≤ 400) (hn : ns.length ≤ 400) (hi : i ≤ 400) (hm : ∀ q ∈ nm, inr .i64 q.2) {x : Lnk} (hx : okK x) : okEs (lnkE nm tm R ns i rt x) := by
  intro e he
  unfold lnkE at he
  split at he
  · have := List.mem_singleton.1 he
    subst this
    refine ⟨by simp only [inr]; omega, ?_, hx.2.2.2⟩
    show inr .i64 ((mget nm x.id).getD 0)
    cases hg : mget nm x.id with
    | none => simp [inr]
    | some v => exact hm _ (mget_mem hg)
  · split at he
    · exact netE_ok hR hi hx ns 0 (by omega) e he
    · simp at he
theorem rowE_ok {nm : List (Int × Int)} {tm : List (Int × List (Int × Bool))} {R : Nat} {ns : List Lsa} (hR : R ≤ 400) (hn : ns.length ≤ 400) (hm : ∀ q ∈ nm, inr .i64 q.2) : ∀ (l : List Lsa) (i : Nat), i + l.length ≤ 400 → (∀ x ∈ l, okA x) → okEs (rowE nm tm R ns i l)
  | [], i, _, _ => fun e he => by simp [rowE] at he
  | x :: l, i, h, hl => fun e he => by
    simp only [List.length_cons] at h
    simp only [rowE] at he
    rcases List.mem_append.1 he with he | he
    · obtain ⟨y, hy, h2⟩ := List.mem_flatMap.1 he
      exact lnkE_ok hR hn (by omega) hm ((hl x (List.mem_cons_self ..)).2.1 y hy) e h2
    · exact rowE_ok hR hn hm l (i + 1) (by omega) (fun z hz => hl z (List.mem_cons_of_mem _ hz)) e he
end Go.Pl
/- The examples of the document. No program in sight. -/
namespace Go.Pl
open Go Go.RT
set_option linter.all false
end Go.Pl
/- Valid databases: keys are apart; Own and Get find the same advertisement. No program in sight. -/
namespace Go.Pl
open Go Go.RT
set_option linter.all false
theorem cmpI_lt (a b : Int) : cmpI a b < 0 ↔ a < b := by
  unfold cmpI
  split
  · simp; assumption
  · split <;> simp <;> omega
theorem keyI_lt (a b : KeyA) : keyI a b < 0 ↔ a.ty < b.ty ∨ a.ty = b.ty ∧ (a.id < b.id ∨ a.id = b.id ∧ (a.ln < b.ln ∨ a.ln = b.ln ∧ a.rt < b.rt)) := by
  unfold keyI
  split
  · rw [cmpI_lt]; omega
  · split
    · rw [cmpI_lt]; omega
    · split
      · rw [cmpI_lt]; omega
      · rw [cmpI_lt]; omega
def keyLt (a b : Lsa) : Prop := keyI (keyA a.h) (keyA b.h) < 0
theorem keyLt.trans {a b c : Lsa} (h1 : keyLt a b) (h2 : keyLt b c) : keyLt a c := by
  unfold keyLt at *
  rw [keyI_lt] at *
  omega
theorem keyLt.irr {a b : Lsa} (h : keyLt a b) (e : keyA a.h = keyA b.h) : False := by
  unfold keyLt at h
  rw [keyI_lt, e] at h
  omega
theorem rows_ok : ∀ (l : List Lsa) (p : Option Lsa), rowsGo p l = 0 → (∀ x ∈ l, chkA x = 0 ∧ sealB x = true) ∧ l.Pairwise keyLt ∧ ∀ q, p = some q → ∀ x ∈ l, keyLt q x
  | [], p, _ => ⟨fun x hx => by simp at hx, List.Pairwise.nil, fun q _ x hx => by simp at hx⟩
  | x :: l, p, h => by
    simp only [rowsGo] at h
    by_cases h1 : chkA x ≠ 0
    · rw [if_pos h1] at h; exact absurd h h1
    · rw [if_neg h1] at h
      by_cases h2 : sealB x = false
      · rw [if_pos h2] at h; cases h
      · rw [if_neg h2] at h
        by_cases h3 : badR p x = true
        · rw [if_pos h3] at h; cases h
        · rw [if_neg h3] at h
          obtain ⟨k1, k2, k3⟩ := rows_ok l (some x) h
          have kx := k3 x rfl
          refine ⟨fun y hy => ?_, List.pairwise_cons.2 ⟨kx, k2⟩, fun q hq y hy => ?_⟩
          · rcases List.mem_cons.1 hy with rfl | hy
            · exact ⟨by simpa using h1, by simpa using h2⟩
            · exact k1 y hy
          · subst hq
            have hqx : keyLt q x := by simp only [badR, decide_eq_true_eq] at h3; unfold keyLt; omega
            rcases List.mem_cons.1 hy with rfl | hy
            · exact hqx
            · exact hqx.trans (kx y hy)
structure DbOk (db : List Lsa) : Prop where
  len : db.length ≤ 2000
  chk : ∀ x ∈ db, chkA x = 0
  pw : db.Pairwise keyLt
theorem dbOk {db : List Lsa} (h : dbI db = 0) : DbOk db := by
  unfold dbI at h
  by_cases h1 : 2000 < db.length
  · rw [if_pos h1] at h; cases h
  · rw [if_neg h1] at h
    obtain ⟨k1, k2, _⟩ := rows_ok db none h
    exact ⟨by omega, fun x hx => (k1 x hx).1, k2⟩
theorem head_router {h : Hdr} (h0 : headI h = 0) (h1 : h.ty = 1) : h.ln = 0 ∧ h.id = h.rt := by
  unfold headI at h0
  by_cases c1 : (!inB h.ty 1 5) = true
  · rw [if_pos c1] at h0; exact absurd h0 (by decide)
  rw [if_neg c1] at h0
  by_cases c2 : (decide (h.rt = 0) || !inB h.sq 1 2147483647 || !inB h.ag 0 3600 || !inB h.sm 0 65535) = true
  · rw [if_pos c2] at h0; exact absurd h0 (by decide)
  rw [if_neg c2] at h0
  by_cases c3 : (if (decide (h.ty = 1) || decide (h.ty = 4)) = true then decide (h.ln ≠ 0) else !inB h.ln 0 32) = true
  · rw [if_pos c3] at h0; exact absurd h0 (by decide)
  rw [if_neg c3] at h0
  by_cases c4 : (decide (h.ty = 1) && decide (h.id ≠ h.rt)) = true
  · rw [if_pos c4] at h0; exact absurd h0 (by decide)
  rw [if_pos (by simp [h1])] at c3
  exact ⟨by simpa using c3, by simpa [h1] using c4⟩
theorem DbOk.router {db : List Lsa} (h : DbOk db) {x : Lsa} (hx : x ∈ db) (h1 : x.h.ty = 1) : keyA x.h = ⟨1, x.h.rt, 0, x.h.rt⟩ := by
  obtain ⟨k1, k2⟩ := head_router (chkA_parts (h.chk x hx)).1 h1
  unfold keyA
  rw [h1, k1, k2]
end Go.Pl
/- Stubs: both sides take them of the same advertisement. No program in sight. -/
namespace Go.Pl
open Go Go.RT
set_option linter.all false
abbrev kOf (r : Int) : KeyA := keyA ⟨1, r, 0, r, 0, 0, 0⟩
def stubsA (db : List Lsa) (r : Int) : List Lnk :=
  match db.find? fun x => decide (keyA x.h = kOf r) with
  | none => []
  | some l => if 3600 ≤ l.h.ag then [] else stubsL l.ls
end Go.Pl
/- The heap, on lists: what the program's loops make. -/
namespace Go.Pl
open Go Go.RT
set_option linter.all false
abbrev encT (x : Nat) : List FV := [If .i64 (x : Int)]
structure Hq where
  it : List Nat
  pl : List Int
  ky : List Int
def Hq.item (h : Hq) (i : Nat) : Nat := h.it.getD i 0
def Hq.key (h : Hq) (v : Nat) : Int := h.ky.getD v 0
/-- items are nodes -/
structure Hq.Ok (h : Hq) : Prop where
  len : h.pl.length = h.ky.length
  lt : ∀ v ∈ h.it, v < h.pl.length
theorem Hq.Ok.item {h : Hq} (o : h.Ok) {i : Nat} (hi : i < h.it.length) : h.item i < h.pl.length := by
  unfold Hq.item; rw [List.getD_eq_getElem?_getD, List.getElem?_eq_getElem hi]; exact o.lt _ (List.getElem_mem hi)
def lessH (h : Hq) (i j : Nat) : Bool := decide (h.key (h.item i) < h.key (h.item j)) || decide (h.key (h.item i) = h.key (h.item j)) && decide ((h.item i : Int) < (h.item j : Int))
def swapH (h : Hq) (i j : Nat) : Hq := ⟨(h.it.set i (h.item j)).set j (h.item i), (h.pl.set (h.item j) i).set (h.item i) j, h.ky⟩
theorem swapH_len (h : Hq) (i j : Nat) : (swapH h i j).it.length = h.it.length ∧ (swapH h i j).pl.length = h.pl.length ∧ (swapH h i j).ky = h.ky := by simp [swapH]
theorem Hq.Ok.swap {h : Hq} (o : h.Ok) {i j : Nat} (hi : i < h.it.length) (hj : j < h.it.length) : (swapH h i j).Ok := by
  refine ⟨by simp [swapH, o.len], fun v hv => ?_⟩
  simp only [swapH, List.length_set]
  rcases List.mem_or_eq_of_mem_set hv with h1 | rfl
  · rcases List.mem_or_eq_of_mem_set h1 with h2 | rfl
    · exact o.lt v h2
    · exact o.item hj
  · exact o.item hi
def upH (h : Hq) (i : Nat) : Hq × Nat :=
  if hi : 0 < i then (if lessH h i ((i - 1) / 2) = true then upH (swapH h i ((i - 1) / 2)) ((i - 1) / 2) else (h, i)) else (h, i)
termination_by i
decreasing_by omega
/-- the child that comes first -/
def kidH (h : Hq) (i n : Nat) : Nat := if 2 * i + 1 + 1 < n ∧ lessH h (2 * i + 1 + 1) (2 * i + 1) = true then 2 * i + 1 + 1 else 2 * i + 1
theorem kidH_gt (h : Hq) (i n : Nat) : i < kidH h i n := by unfold kidH; split <;> omega
def downH (h : Hq) (i n : Nat) : Hq :=
  if hk : kidH h i n < n then (if lessH h (kidH h i n) i = true then downH (swapH h i (kidH h i n)) (kidH h i n) n else h) else h
termination_by n - i
decreasing_by have := kidH_gt h i n; omega
def settleH (h : Hq) (i n : Nat) : Hq := downH (upH h i).1 (upH h i).2 n
end Go.Pl
namespace Go.Pl
theorem up_step {h : Hq} {i : Nat} (hi : 0 < i) (hl : lessH h i ((i - 1) / 2) = true) : upH h i = upH (swapH h i ((i - 1) / 2)) ((i - 1) / 2) := by
  rw [upH, dif_pos hi, if_pos hl]
theorem up_stop {h : Hq} {i : Nat} (hh : ¬ (0 < i ∧ lessH h i ((i - 1) / 2) = true)) : upH h i = (h, i) := by
  rw [upH]
  by_cases hi : 0 < i
  · rw [dif_pos hi, if_neg (fun e => hh ⟨hi, e⟩)]
  · rw [dif_neg hi]
theorem down_step {h : Hq} {i n : Nat} (hk : kidH h i n < n) (hl : lessH h (kidH h i n) i = true) : downH h i n = downH (swapH h i (kidH h i n)) (kidH h i n) n := by
  rw [downH, dif_pos hk, if_pos hl]
theorem down_stop {h : Hq} {i n : Nat} (hh : ¬ (kidH h i n < n ∧ lessH h (kidH h i n) i = true)) : downH h i n = h := by
  rw [downH]
  by_cases hk : kidH h i n < n
  · rw [dif_pos hk, if_neg (fun e => hh ⟨hk, e⟩)]
  · rw [dif_neg hk]
/-- heaps of one size -/
def Like (h h' : Hq) : Prop := h'.Ok ∧ h'.it.length = h.it.length ∧ h'.pl.length = h.pl.length ∧ h'.ky = h.ky
theorem Like.swap {h h' : Hq} (l : Like h h') {i j : Nat} (hi : i < h.it.length) (hj : j < h.it.length) : Like h (swapH h' i j) := by
  obtain ⟨l1, l2, l3, l4⟩ := l
  obtain ⟨s1, s2, s3⟩ := swapH_len h' i j
  exact ⟨l1.swap (by omega) (by omega), s1.trans l2, s2.trans l3, s3.trans l4⟩
open Go Go.RT
def Hq.place (h : Hq) (v : Nat) : Int := h.pl.getD v 0
/-- items and places fit -/
structure HI (h : Hq) : Prop where
  ok : h.Ok
  at_ : ∀ v, v < h.pl.length → 0 ≤ h.place v → h.place v < h.it.length ∧ h.item (h.place v).toNat = v
  inv : ∀ i, i < h.it.length → h.place (h.item i) = i
def insH (h : Hq) (v : Nat) : Hq := if h.place v < 0 then ⟨h.it ++ [v], h.pl.set v h.it.length, h.ky⟩ else h
def putH (h : Hq) (v : Nat) (k : Int) : Hq := ⟨(insH h v).it, (insH h v).pl, (insH h v).ky.set v k⟩
def setH (h : Hq) (v : Nat) (k : Int) : Hq := settleH (putH h v k) ((putH h v k).place v).toNat (putH h v k).it.length
def cutH (h : Hq) (v : Nat) : Hq :=
  ⟨(swapH h (h.place v).toNat (h.it.length - 1)).it.take (h.it.length - 1), (swapH h (h.place v).toNat (h.it.length - 1)).pl.set v (-1), h.ky⟩
def dropH (h : Hq) (v : Nat) : Hq := if (h.place v).toNat < h.it.length - 1 then settleH (cutH h v) (h.place v).toNat (h.it.length - 1) else cutH h v
theorem getD_set {α : Type} (l : List α) (i j : Nat) (x d : α) (hi : i < l.length) : (l.set i x).getD j d = if i = j then x else l.getD j d := by
  rw [List.getD_eq_getElem?_getD, List.getElem?_set]
  by_cases h : i = j
  · subst h; simp [hi]
  · simp [h, List.getD_eq_getElem?_getD]
theorem getD_app {α : Type} (l : List α) (x d : α) (j : Nat) : (l ++ [x]).getD j d = if j = l.length then x else l.getD j d := by
  rw [List.getD_eq_getElem?_getD, List.getD_eq_getElem?_getD, List.getElem?_append]
  by_cases h : j < l.length
  · rw [if_pos h, if_neg (by omega)]
  · rw [if_neg h]
    by_cases h2 : j = l.length
    · subst h2; simp
    · rw [if_neg h2, List.getElem?_eq_none (by simp; omega), List.getElem?_eq_none (by omega)]
theorem HI.lt {h : Hq} (o : HI h) {v : Nat} (hv : v < h.pl.length) (hp : 0 ≤ h.place v) : (h.place v).toNat < h.it.length := by have := (o.at_ v hv hp).1; omega
theorem HI.ins {h : Hq} (o : HI h) {v : Nat} (hv : v < h.pl.length) : HI (insH h v) ∧ (insH h v).pl.length = h.pl.length ∧ (insH h v).ky = h.ky ∧ 0 ≤ (insH h v).place v ∧ (insH h v).it.length ≤ h.it.length + 1 := by
  unfold insH
  by_cases hp : h.place v < 0
  · rw [if_pos hp]
    have e1 : ∀ w, (⟨h.it ++ [v], h.pl.set v h.it.length, h.ky⟩ : Hq).place w = if v = w then (h.it.length : Int) else h.place w := fun w => getD_set _ _ _ _ _ hv
    have e2 : ∀ i, (⟨h.it ++ [v], h.pl.set v h.it.length, h.ky⟩ : Hq).item i = if i = h.it.length then v else h.item i := fun i => getD_app _ _ _ _
    refine ⟨⟨⟨by simpa using o.ok.len, fun w hw => ?_⟩, fun w hw hw0 => ?_, fun i hi => ?_⟩, by simp, rfl, by rw [e1, if_pos rfl]; omega, by simp⟩
    · rcases List.mem_append.1 hw with h1 | h1
      · simpa using o.ok.lt w h1
      · have : w = v := by simpa using h1
        subst this; simpa using hv
    · simp only [List.length_set] at hw
      rw [e1] at hw0 ⊢
      by_cases hvw : v = w
      · subst hvw; simp only [if_pos, List.length_append, List.length_singleton]; rw [e2]; exact ⟨by omega, by simp⟩
      · rw [if_neg hvw] at hw0 ⊢
        obtain ⟨a, b⟩ := o.at_ w hw hw0
        refine ⟨by simp; omega, ?_⟩
        rw [e2, if_neg (by omega)]; exact b
    · simp only [List.length_append, List.length_singleton] at hi
      rw [e2, e1]
      by_cases hin : i = h.it.length
      · rw [if_pos hin, if_pos rfl, hin]
      · rw [if_neg hin]
        have hi' : i < h.it.length := by omega
        have := o.inv i hi'
        by_cases hvi : v = h.item i
        · exfalso; rw [← hvi] at this; omega
        · rw [if_neg hvi]; exact this
  · rw [if_neg hp]; exact ⟨o, rfl, rfl, by omega, by omega⟩
theorem HI.put {h : Hq} (o : HI h) {v : Nat} (hv : v < h.pl.length) (k : Int) : HI (putH h v k) ∧ (putH h v k).pl.length = h.pl.length ∧ 0 ≤ (putH h v k).place v ∧ (putH h v k).it.length ≤ h.it.length + 1 := by
  obtain ⟨a, b, c, d, e⟩ := o.ins hv
  exact ⟨⟨⟨by simpa [putH] using a.ok.len, a.ok.lt⟩, a.at_, a.inv⟩, b, d, e⟩
theorem place_swap (h : Hq) {i j : Nat} (o : h.Ok) (hi : i < h.it.length) (hj : j < h.it.length) (w : Nat) : (swapH h i j).place w = if h.item i = w then (j : Int) else if h.item j = w then (i : Int) else h.place w := by
  have h1 := o.item hi
  have h2 := o.item hj
  unfold Hq.place swapH
  rw [getD_set _ _ _ _ _ (by simpa using h1)]
  by_cases e : h.item i = w
  · rw [if_pos e, if_pos e]
  · rw [if_neg e, if_neg e, getD_set _ _ _ _ _ h2]
theorem item_swap (h : Hq) {i j : Nat} (hi : i < h.it.length) (hj : j < h.it.length) (k : Nat) : (swapH h i j).item k = if j = k then h.item i else if i = k then h.item j else h.item k := by
  unfold Hq.item swapH
  rw [getD_set _ _ _ _ _ (by simpa using hj)]
  by_cases e : j = k
  · rw [if_pos e, if_pos e]; rfl
  · rw [if_neg e, if_neg e, getD_set _ _ _ _ _ hi]; rfl
theorem HI.swap {h : Hq} (o : HI h) {i j : Nat} (hi : i < h.it.length) (hj : j < h.it.length) : HI (swapH h i j) := by
  obtain ⟨l1, l2, l3⟩ := swapH_len h i j
  have ii := o.inv i hi
  have ij := o.inv j hj
  refine ⟨o.ok.swap hi hj, fun w hw hw0 => ?_, fun k hk => ?_⟩
  · rw [place_swap h o.ok hi hj] at hw0 ⊢
    rw [l1]
    by_cases e1 : h.item i = w
    · rw [if_pos e1]
      refine ⟨by omega, ?_⟩
      rw [item_swap h hi hj, if_pos (by simp)]; exact e1
    · rw [if_neg e1] at hw0 ⊢
      by_cases e2 : h.item j = w
      · rw [if_pos e2]
        refine ⟨by omega, ?_⟩
        rw [item_swap h hi hj, Int.toNat_natCast]
        by_cases e3 : j = i
        · subst e3; rw [if_pos rfl]; exact e2
        · rw [if_neg e3, if_pos rfl]; exact e2
      · rw [if_neg e2] at hw0 ⊢
        obtain ⟨a, b⟩ := o.at_ w (by rw [← l2]; exact hw) hw0
        refine ⟨a, ?_⟩
        rw [item_swap h hi hj, if_neg (fun e => e2 (by rw [e]; exact b)), if_neg (fun e => e1 (by rw [e]; exact b))]; exact b
  · rw [l1] at hk
    rw [item_swap h hi hj]
    by_cases e1 : j = k
    · rw [if_pos e1, place_swap h o.ok hi hj, if_pos rfl, e1]
    · rw [if_neg e1]
      by_cases e2 : i = k
      · rw [if_pos e2, place_swap h o.ok hi hj]
        by_cases e3 : h.item i = h.item j
        · rw [if_pos e3]; rw [e3] at ii; omega
        · rw [if_neg e3, if_pos rfl, e2]
      · rw [if_neg e2, place_swap h o.ok hi hj]
        have ik := o.inv k hk
        rw [if_neg (fun e => by rw [e] at ii; omega), if_neg (fun e => by rw [e] at ij; omega)]; exact ik
theorem HI.cut {h : Hq} (o : HI h) {v : Nat} (hv : v < h.pl.length) (hp : 0 ≤ h.place v) : HI (cutH h v) ∧ (cutH h v).it.length = h.it.length - 1 ∧ (cutH h v).pl.length = h.pl.length ∧ (cutH h v).ky = h.ky := by
  have hi := o.lt hv hp
  have hj : h.it.length - 1 < h.it.length := by omega
  obtain ⟨_, hiv⟩ := o.at_ v hv hp
  have os := o.swap hi hj
  obtain ⟨l1, l2, l3⟩ := swapH_len h (h.place v).toNat (h.it.length - 1)
  have hlast : (swapH h (h.place v).toNat (h.it.length - 1)).item (h.it.length - 1) = v := by rw [item_swap h hi hj, if_pos rfl]; exact hiv
  have hpl : (swapH h (h.place v).toNat (h.it.length - 1)).place v = (h.it.length - 1 : Nat) := by rw [← hlast]; rw [hlast]; have := os.inv (h.it.length - 1) (by rw [l1]; exact hj); rw [hlast] at this; exact this
  have e1 : ∀ w, (cutH h v).place w = if v = w then (-1 : Int) else (swapH h (h.place v).toNat (h.it.length - 1)).place w := fun w => getD_set _ _ _ _ _ (by rw [l2]; exact hv)
  have e2 : ∀ i, i < h.it.length - 1 → (cutH h v).item i = (swapH h (h.place v).toNat (h.it.length - 1)).item i := fun i hi => by
    unfold cutH Hq.item; simp only [List.getD_eq_getElem?_getD]; rw [List.getElem?_take, if_pos hi]
  have hl : (cutH h v).it.length = h.it.length - 1 := by unfold cutH; simp only [List.length_take, l1]; omega
  refine ⟨⟨⟨?_, fun w hw => ?_⟩, fun w hw hw0 => ?_, fun i hi2 => ?_⟩, hl, by unfold cutH; simp [l2], rfl⟩
  · unfold cutH; simp only [List.length_set, l2]; exact o.ok.len
  · have := os.ok.lt w (List.mem_of_mem_take hw); unfold cutH; simpa using this
  · have hw' : w < (swapH h (h.place v).toNat (h.it.length - 1)).pl.length := by unfold cutH at hw; simpa using hw
    rw [e1] at hw0 ⊢
    by_cases e : v = w
    · rw [if_pos e] at hw0; omega
    · rw [if_neg e] at hw0 ⊢
      obtain ⟨a, b⟩ := os.at_ w hw' hw0
      rw [l1] at a
      have hne : ((swapH h (h.place v).toNat (h.it.length - 1)).place w).toNat ≠ h.it.length - 1 := fun e3 => e (by rw [e3, hlast] at b; exact b)
      refine ⟨by rw [hl]; omega, ?_⟩
      rw [e2 _ (by omega)]; exact b
  · rw [hl] at hi2
    rw [e2 i hi2, e1]
    have := os.inv i (by rw [l1]; omega)
    rw [if_neg (fun e => by rw [← e, hpl] at this; omega)]; exact this
end Go.Pl
namespace Go.Pl
theorem HI.up {h : Hq} : ∀ {i : Nat}, HI h → i < h.it.length → HI (upH h i).1 ∧ (upH h i).1.it.length = h.it.length ∧ (upH h i).1.pl.length = h.pl.length ∧ (upH h i).1.ky = h.ky ∧ (upH h i).2 < h.it.length := by
  intro i
  induction i using Nat.strongRecOn generalizing h with
  | _ i ih =>
    intro o hi
    by_cases hh : 0 < i ∧ lessH h i ((i - 1) / 2) = true
    · rw [up_step hh.1 hh.2]
      have hj : (i - 1) / 2 < h.it.length := by omega
      obtain ⟨l1, l2, l3⟩ := swapH_len h i ((i - 1) / 2)
      obtain ⟨a, b, c, d, e⟩ := ih ((i - 1) / 2) (by omega) (o.swap hi hj) (by rw [l1]; exact hj)
      exact ⟨a, b.trans l1, c.trans l2, d.trans l3, by omega⟩
    · rw [up_stop hh]; exact ⟨o, rfl, rfl, rfl, hi⟩
theorem HI.down {h : Hq} : ∀ {k i n : Nat}, n - i ≤ k → HI h → i < h.it.length → n = h.it.length → HI (downH h i n) ∧ (downH h i n).it.length = h.it.length ∧ (downH h i n).pl.length = h.pl.length ∧ (downH h i n).ky = h.ky := by
  intro k
  induction k generalizing h with
  | zero => intro i n hk o hi hn; omega
  | succ k ih =>
    intro i n hk o hi hn
    by_cases hh : kidH h i n < n ∧ lessH h (kidH h i n) i = true
    · rw [down_step hh.1 hh.2]
      have hgt := kidH_gt h i n
      obtain ⟨l1, l2, l3⟩ := swapH_len h i (kidH h i n)
      obtain ⟨a, b, c, d⟩ := ih (h := swapH h i (kidH h i n)) (i := kidH h i n) (n := n) (by omega) (o.swap hi (by omega)) (by rw [l1]; omega) (by rw [l1]; exact hn)
      exact ⟨a, b.trans l1, c.trans l2, d.trans l3⟩
    · rw [down_stop hh]; exact ⟨o, rfl, rfl, rfl⟩
theorem HI.settle {h : Hq} {i : Nat} (o : HI h) (hi : i < h.it.length) : HI (settleH h i h.it.length) ∧ (settleH h i h.it.length).it.length = h.it.length ∧ (settleH h i h.it.length).pl.length = h.pl.length ∧ (settleH h i h.it.length).ky = h.ky := by
  obtain ⟨a, b, c, d, e⟩ := o.up hi
  obtain ⟨a2, b2, c2, d2⟩ := a.down (k := h.it.length - (upH h i).2) (i := (upH h i).2) (n := h.it.length) (Nat.le_refl _) (by omega) (by omega)
  exact ⟨a2, b2.trans b, c2.trans c, d2.trans d⟩
theorem HI.set {h : Hq} (o : HI h) {v : Nat} (hv : v < h.pl.length) (k : Int) : HI (setH h v k) ∧ (setH h v k).it.length = (putH h v k).it.length ∧ (setH h v k).pl.length = h.pl.length ∧ (setH h v k).ky = h.ky.set v k := by
  obtain ⟨a, b, c, d⟩ := o.put hv k
  have hi := a.lt (by rw [b]; exact hv) c
  obtain ⟨q1, q2, q3, q4⟩ := a.settle hi
  refine ⟨q1, q2, q3.trans b, q4.trans ?_⟩
  unfold putH insH; split <;> rfl
theorem HI.drop {h : Hq} (o : HI h) {v : Nat} (hv : v < h.pl.length) (hp : 0 ≤ h.place v) : HI (dropH h v) ∧ (dropH h v).it.length = h.it.length - 1 ∧ (dropH h v).pl.length = h.pl.length ∧ (dropH h v).ky = h.ky := by
  obtain ⟨a, b, c, d⟩ := o.cut hv hp
  unfold dropH
  by_cases hh : (h.place v).toNat < h.it.length - 1
  · rw [if_pos hh]
    obtain ⟨q1, q2, q3, q4⟩ := a.settle (i := (h.place v).toNat) (by rw [b]; exact hh)
    rw [b] at q1 q2 q3 q4
    exact ⟨q1, q2, q3.trans c, q4.trans d⟩
  · rw [if_neg hh]; exact ⟨a, b, c, d⟩
open Go Go.RT
/- heap order -/
def Hq.kk (h : Hq) (i : Nat) : Int × Nat := (h.key (h.item i), h.item i)
def le2 (a b : Int × Nat) : Prop := a.1 < b.1 ∨ a.1 = b.1 ∧ a.2 ≤ b.2
theorem le2_trans {a b c : Int × Nat} (h : le2 a b) (g : le2 b c) : le2 a c := by unfold le2 at *; omega
theorem le2_refl (a : Int × Nat) : le2 a a := by unfold le2; omega
theorem le2_total {a b : Int × Nat} (h : ¬ le2 a b) : le2 b a := by unfold le2 at *; omega
theorem lessH_iff (h : Hq) (i j : Nat) : lessH h i j = true ↔ ¬ le2 (h.kk j) (h.kk i) := by
  simp only [lessH, le2, Hq.kk, Bool.or_eq_true, Bool.and_eq_true, decide_eq_true_eq]; omega
def HOrd (h : Hq) (n : Nat) : Prop := ∀ j, 0 < j → j < n → le2 (h.kk ((j - 1) / 2)) (h.kk j)
structure UpI (h : Hq) (i n : Nat) : Prop where
  a : ∀ j, 0 < j → j < n → j ≠ i → (j - 1) / 2 ≠ i → le2 (h.kk ((j - 1) / 2)) (h.kk j)
  b : ∀ j, 0 < j → j < n → (j - 1) / 2 = i → 0 < i → le2 (h.kk ((i - 1) / 2)) (h.kk j)
structure DnI (h : Hq) (i n : Nat) : Prop where
  a : ∀ j, 0 < j → j < n → (j - 1) / 2 ≠ i → le2 (h.kk ((j - 1) / 2)) (h.kk j)
  b : ∀ j, 0 < j → j < n → (j - 1) / 2 = i → 0 < i → le2 (h.kk ((i - 1) / 2)) (h.kk j)
theorem kk_swap (h : Hq) {i j : Nat} (hi : i < h.it.length) (hj : j < h.it.length) (k : Nat) : (swapH h i j).kk k = if j = k then h.kk i else if i = k then h.kk j else h.kk k := by
  have e : ∀ v, (swapH h i j).key v = h.key v := fun v => rfl
  unfold Hq.kk
  rw [item_swap h hi hj]
  by_cases e1 : j = k
  · rw [if_pos e1, if_pos e1, e]
  · rw [if_neg e1, if_neg e1]
    by_cases e2 : i = k
    · rw [if_pos e2, if_pos e2, e]
    · rw [if_neg e2, if_neg e2, e]
theorem UpI.dn {h : Hq} {i n : Nat} (u : UpI h i n) (hp : 0 < i → le2 (h.kk ((i - 1) / 2)) (h.kk i)) : DnI h i n :=
  ⟨fun j h0 h1 h2 => by
    by_cases e : j = i
    · subst e; exact hp h0
    · exact u.a j h0 h1 e h2, u.b⟩
theorem UpI.step {h : Hq} {i n : Nat} (u : UpI h i n) (hn : n = h.it.length) (h0 : 0 < i) (hi : i < n) : UpI (swapH h i ((i - 1) / 2)) ((i - 1) / 2) n := by
  have hpi : (i - 1) / 2 < i := by omega
  generalize hp : (i - 1) / 2 = p at *
  have kk := kk_swap h (i := i) (j := p) (by omega) (by omega)
  have up : ∀ j, 0 < j → j < n → j ≠ i → (j - 1) / 2 ≠ i → le2 (h.kk ((j - 1) / 2)) (h.kk j) := u.a
  refine ⟨fun j j0 jn hjp hpp => ?_, fun j j0 jn hpp p0 => ?_⟩
  · have hji : j ≠ i := fun e => hpp (by rw [e]; exact hp)
    rw [kk ((j - 1) / 2), kk j, if_neg (show ¬ p = (j - 1) / 2 from fun e => hpp e.symm), if_neg (show ¬ p = j from fun e => hjp e.symm), if_neg (show ¬ i = j from fun e => hji e.symm)]
    by_cases e : i = (j - 1) / 2
    · rw [if_pos e]
      have := u.b j j0 jn e.symm h0
      rw [hp] at this; exact this
    · rw [if_neg e]; exact up j j0 jn hji (fun e2 => e e2.symm)
  · have q : le2 (h.kk ((p - 1) / 2)) (h.kk p) := up p p0 (by omega) (by omega) (by omega)
    rw [kk, kk, if_neg (by omega), if_neg (by omega), if_neg (by omega)]
    by_cases e : i = j
    · rw [if_pos e]; exact q
    · rw [if_neg e]
      refine le2_trans q ?_
      have := up j j0 jn (fun e2 => e e2.symm) (by omega)
      rw [hpp] at this; exact this
theorem HI.upOrd {h : Hq} : ∀ {i n : Nat}, HI h → n = h.it.length → i < n → UpI h i n → DnI (upH h i).1 (upH h i).2 n := by
  intro i
  induction i using Nat.strongRecOn generalizing h with
  | _ i ih =>
    intro n o hn hi u
    by_cases hh : 0 < i ∧ lessH h i ((i - 1) / 2) = true
    · rw [up_step hh.1 hh.2]
      have hj : (i - 1) / 2 < h.it.length := by omega
      exact ih ((i - 1) / 2) (by omega) (o.swap (by omega) hj) (by rw [(swapH_len _ _ _).1]; exact hn) (by omega) (u.step hn hh.1 hi)
    · rw [up_stop hh]
      exact u.dn fun h0 => Classical.byContradiction fun e => hh ⟨h0, (lessH_iff _ _ _).2 e⟩
theorem kid_le (h : Hq) {i n j : Nat} (hk : kidH h i n < n) (j0 : 0 < j) (jn : j < n) (hp : (j - 1) / 2 = i) : le2 (h.kk (kidH h i n)) (h.kk j) := by
  have hj : j = 2 * i + 1 ∨ j = 2 * i + 1 + 1 := by omega
  unfold kidH at *
  split at hk
  · next hc =>
    rw [if_pos hc]
    rcases hj with rfl | rfl
    · exact le2_total ((lessH_iff _ _ _).1 hc.2)
    · exact le2_refl _
  · next hc =>
    rw [if_neg hc]
    rcases hj with rfl | rfl
    · exact le2_refl _
    · exact Classical.byContradiction fun e => hc ⟨jn, (lessH_iff _ _ _).2 e⟩
theorem kid_par (h : Hq) (i n : Nat) : (kidH h i n - 1) / 2 = i := by unfold kidH; split <;> omega
theorem DnI.step {h : Hq} {i n : Nat} (u : DnI h i n) (hn : n = h.it.length) (hi : i < n) (hk : kidH h i n < n) (hl : lessH h (kidH h i n) i = true) : DnI (swapH h i (kidH h i n)) (kidH h i n) n := by
  have hkp := kid_par h i n
  have hgt := kidH_gt h i n
  have hkl := fun j j0 jn hp => kid_le h (i := i) (n := n) (j := j) hk j0 jn hp
  have hl2 := le2_total ((lessH_iff _ _ _).1 hl)
  generalize kidH h i n = k at *
  have kk := kk_swap h (i := i) (j := k) (by omega) (by omega)
  refine ⟨fun j j0 jn hpk => ?_, fun j j0 jn hpp k0 => ?_⟩
  · rw [kk, kk, if_neg (fun e => hpk e.symm)]
    by_cases e1 : k = j
    · subst e1
      rw [if_pos rfl, if_pos hkp.symm]; exact hl2
    · rw [if_neg e1]
      by_cases e2 : i = j
      · subst e2
        rw [if_pos rfl, if_neg (by omega)]
        exact u.b k (by omega) hk hkp j0
      · rw [if_neg e2]
        by_cases e3 : i = (j - 1) / 2
        · rw [if_pos e3]; exact hkl j j0 jn e3.symm
        · rw [if_neg e3]; exact u.a j j0 jn (fun e => e3 e.symm)
  · rw [hkp, kk, kk, if_neg (by omega), if_pos rfl, if_neg (by omega), if_neg (by omega)]
    have := u.a j j0 jn (by omega)
    rw [hpp] at this; exact this
theorem HI.dnOrd {h : Hq} : ∀ {k i n : Nat}, n - i ≤ k → HI h → i < h.it.length → n = h.it.length → DnI h i n → HOrd (downH h i n) n := by
  intro k
  induction k generalizing h with
  | zero => intro i n hk o hi hn; omega
  | succ k ih =>
    intro i n hk o hi hn u
    by_cases hh : kidH h i n < n ∧ lessH h (kidH h i n) i = true
    · rw [down_step hh.1 hh.2]
      have hgt := kidH_gt h i n
      exact ih (by omega) (o.swap hi (by omega)) (by rw [(swapH_len _ _ _).1]; omega) (by rw [(swapH_len _ _ _).1]; exact hn) (u.step hn (by omega) hh.1 hh.2)
    · rw [down_stop hh]
      intro j j0 jn
      by_cases e : (j - 1) / 2 = i
      · rw [e]
        by_cases hk2 : kidH h i n < n
        · exact le2_trans (Classical.byContradiction fun e2 => hh ⟨hk2, (lessH_iff _ _ _).2 e2⟩) (kid_le h hk2 j0 jn e)
        · exfalso
          apply hk2
          unfold kidH; split
          · next hc => exact hc.1
          · omega
      · exact u.a j j0 jn e
theorem HI.settleOrd {h : Hq} {i : Nat} (o : HI h) (hi : i < h.it.length) (u : UpI h i h.it.length) : HOrd (settleH h i h.it.length) h.it.length := by
  obtain ⟨a, b, c, d, e⟩ := o.up hi
  exact a.dnOrd (k := h.it.length - (upH h i).2) (Nat.le_refl _) (by omega) b.symm (o.upOrd rfl hi u)
/- which items are in it -/
theorem HI.in_swap {h : Hq} (o : HI h) {i j : Nat} (hi : i < h.it.length) (hj : j < h.it.length) (w : Nat) : 0 ≤ (swapH h i j).place w ↔ 0 ≤ h.place w := by
  have ii := o.inv i hi
  have ij := o.inv j hj
  rw [place_swap h o.ok hi hj]
  by_cases e1 : h.item i = w
  · rw [if_pos e1, ← e1, ii]; omega
  · rw [if_neg e1]
    by_cases e2 : h.item j = w
    · rw [if_pos e2, ← e2, ij]; omega
    · rw [if_neg e2]
theorem HI.in_up {h : Hq} : ∀ {i : Nat}, HI h → i < h.it.length → ∀ w, 0 ≤ (upH h i).1.place w ↔ 0 ≤ h.place w := by
  intro i
  induction i using Nat.strongRecOn generalizing h with
  | _ i ih =>
    intro o hi w
    by_cases hh : 0 < i ∧ lessH h i ((i - 1) / 2) = true
    · rw [up_step hh.1 hh.2]
      have hj : (i - 1) / 2 < h.it.length := by omega
      exact (ih ((i - 1) / 2) (by omega) (o.swap hi hj) (by rw [(swapH_len _ _ _).1]; exact hj) w).trans (o.in_swap hi hj w)
    · rw [up_stop hh]
theorem HI.in_down {h : Hq} : ∀ {k i n : Nat}, n - i ≤ k → HI h → i < h.it.length → n = h.it.length → ∀ w, 0 ≤ (downH h i n).place w ↔ 0 ≤ h.place w := by
  intro k
  induction k generalizing h with
  | zero => intro i n hk o hi hn; omega
  | succ k ih =>
    intro i n hk o hi hn w
    by_cases hh : kidH h i n < n ∧ lessH h (kidH h i n) i = true
    · rw [down_step hh.1 hh.2]
      have hgt := kidH_gt h i n
      exact (ih (by omega) (o.swap hi (by omega)) (by rw [(swapH_len _ _ _).1]; omega) (by rw [(swapH_len _ _ _).1]; exact hn) w).trans (o.in_swap hi (by omega) w)
    · rw [down_stop hh]
theorem HI.in_settle {h : Hq} {i : Nat} (o : HI h) (hi : i < h.it.length) (w : Nat) : 0 ≤ (settleH h i h.it.length).place w ↔ 0 ≤ h.place w := by
  obtain ⟨a, b, c, d, e⟩ := o.up hi
  exact (a.in_down (k := h.it.length - (upH h i).2) (Nat.le_refl _) (by omega) b.symm w).trans (o.in_up hi w)
theorem put_new {h : Hq} {v : Nat} (k : Int) (hp : h.place v < 0) : putH h v k = ⟨h.it ++ [v], h.pl.set v h.it.length, h.ky.set v k⟩ := by unfold putH insH; rw [if_pos hp]
theorem put_old {h : Hq} {v : Nat} (k : Int) (hp : ¬ h.place v < 0) : putH h v k = ⟨h.it, h.pl, h.ky.set v k⟩ := by unfold putH insH; rw [if_neg hp]
structure HG (h : Hq) : Prop where
  hi : HI h
  ord : HOrd h h.it.length
theorem HG.set {h : Hq} (o : HG h) {v : Nat} (hv : v < h.pl.length) (k : Int) : HG (setH h v k) ∧ (setH h v k).pl.length = h.pl.length ∧ (setH h v k).ky = h.ky.set v k ∧ ∀ w, 0 ≤ (setH h v k).place w ↔ w = v ∨ 0 ≤ h.place w := by
  obtain ⟨a, b, c, d⟩ := o.hi.put hv k
  obtain ⟨q1, q2, q3, q4⟩ := o.hi.set hv k
  have hi := a.lt (by rw [b]; exact hv) c
  have hol := o.hi.ok.len
  have hkey : ∀ w, (putH h v k).key w = if v = w then k else h.key w := fun w => by
    have e : (putH h v k).ky = h.ky.set v k := by unfold putH insH; split <;> rfl
    unfold Hq.key; rw [e, getD_set _ _ _ _ _ (by omega)]
  have hu : UpI (putH h v k) ((putH h v k).place v).toNat (putH h v k).it.length := by
    by_cases hp : h.place v < 0
    · have e1 : (putH h v k).it = h.it ++ [v] := by rw [put_new k hp]
      have e2 : (putH h v k).place v = h.it.length := by rw [put_new k hp]; unfold Hq.place; simp only; rw [getD_set _ _ _ _ _ hv, if_pos rfl]
      have e3 : ∀ i, i < h.it.length → (putH h v k).kk i = h.kk i := fun i hi2 => by
        have e4 : (putH h v k).item i = h.item i := by unfold Hq.item; rw [e1, getD_app, if_neg (by omega)]
        have := o.hi.inv i hi2
        unfold Hq.kk; rw [e4, hkey, if_neg (fun e => by rw [← e] at this; omega)]
      rw [e2, e1, Int.toNat_natCast]
      refine ⟨fun j j0 jn h1 h2 => ?_, fun j j0 jn h1 h2 => ?_⟩
      · simp at jn
        rw [e3 _ (by omega), e3 _ (by omega)]; exact o.ord j j0 (by omega)
      · simp at jn; omega
    · have e1 : (putH h v k).it = h.it := by rw [put_old k hp]
      have e2 : (putH h v k).place v = h.place v := by rw [put_old k hp]; rfl
      have hlt := o.hi.lt hv (by omega)
      obtain ⟨_, hiv⟩ := o.hi.at_ v hv (by omega)
      have e3 : ∀ i, i < h.it.length → i ≠ (h.place v).toNat → (putH h v k).kk i = h.kk i := fun i hi2 hne => by
        have e4 : (putH h v k).item i = h.item i := by unfold Hq.item; rw [e1]
        have := o.hi.inv i hi2
        unfold Hq.kk; rw [e4, hkey, if_neg (fun e => by rw [← e] at this; omega)]
      rw [e2, e1]
      refine ⟨fun j j0 jn h1 h2 => ?_, fun j j0 jn h1 h2 => ?_⟩
      · rw [e3 _ (by omega) h2, e3 _ jn h1]; exact o.ord j j0 jn
      · rw [e3 _ (by omega) (by omega), e3 _ jn (by omega)]
        refine le2_trans (o.ord _ h2 hlt) ?_
        have := o.ord j j0 jn
        rw [h1] at this; exact this
  refine ⟨⟨q1, ?_⟩, q3, q4, fun w => ?_⟩
  · rw [q2]; exact a.settleOrd hi hu
  · refine (a.in_settle hi w).trans ?_
    by_cases hp : h.place v < 0
    · rw [put_new k hp]; unfold Hq.place; simp only
      rw [getD_set _ _ _ _ _ hv]
      by_cases e : v = w
      · rw [if_pos e]; constructor
        · intro _; exact .inl e.symm
        · intro _; omega
      · rw [if_neg e]; constructor
        · intro h1; exact .inr h1
        · rintro (h1 | h1)
          · exact absurd h1.symm e
          · exact h1
    · rw [put_old k hp]; constructor
      · intro h1; exact .inr h1
      · rintro (rfl | h1)
        · show 0 ≤ h.place w; omega
        · exact h1
theorem HG.drop {h : Hq} (o : HG h) {v : Nat} (hv : v < h.pl.length) (hp : 0 ≤ h.place v) : HG (dropH h v) ∧ (dropH h v).it.length = h.it.length - 1 ∧ (dropH h v).pl.length = h.pl.length ∧ (dropH h v).ky = h.ky ∧ ∀ w, 0 ≤ (dropH h v).place w ↔ w ≠ v ∧ 0 ≤ h.place w := by
  obtain ⟨a, b, c, d⟩ := o.hi.cut hv hp
  obtain ⟨q1, q2, q3, q4⟩ := o.hi.drop hv hp
  have hlt := o.hi.lt hv hp
  have hlast : h.it.length - 1 < h.it.length := by omega
  have hsw := o.hi.swap hlt hlast
  have e2 : ∀ i, i < h.it.length - 1 → (cutH h v).kk i = if (h.place v).toNat = i then h.kk (h.it.length - 1) else h.kk i := fun i hi => by
    have e3 : (cutH h v).kk i = (swapH h (h.place v).toNat (h.it.length - 1)).kk i := by
      unfold Hq.kk Hq.item cutH Hq.key; simp only [List.getD_eq_getElem?_getD]; rw [List.getElem?_take, if_pos hi]; rfl
    rw [e3, kk_swap h hlt hlast, if_neg (by omega)]
  have hin : ∀ w, 0 ≤ (cutH h v).place w ↔ w ≠ v ∧ 0 ≤ h.place w := fun w => by
    have e1 : (cutH h v).place w = if v = w then (-1 : Int) else (swapH h (h.place v).toNat (h.it.length - 1)).place w := getD_set _ _ _ _ _ (by rw [(swapH_len _ _ _).2.1]; exact hv)
    rw [e1]
    by_cases e : v = w
    · rw [if_pos e]; constructor
      · intro h1; omega
      · intro h1; exact absurd e.symm h1.1
    · rw [if_neg e, o.hi.in_swap hlt hlast]
      exact ⟨fun h1 => ⟨fun e2 => e e2.symm, h1⟩, fun h1 => h1.2⟩
  by_cases hh : (h.place v).toNat < h.it.length - 1
  · have hd : dropH h v = settleH (cutH h v) (h.place v).toNat (h.it.length - 1) := by unfold dropH; rw [if_pos hh]
    have hu : UpI (cutH h v) (h.place v).toNat (cutH h v).it.length := by
      rw [b]
      refine ⟨fun j j0 jn h1 h2 => ?_, fun j j0 jn h1 h2 => ?_⟩
      · rw [e2 _ (by omega), e2 _ jn, if_neg (fun e => h2 e.symm), if_neg (fun e => h1 e.symm)]; exact o.ord j j0 (by omega)
      · rw [e2 _ (by omega), e2 _ jn, if_neg (by omega), if_neg (by omega)]
        refine le2_trans (o.ord _ h2 hlt) ?_
        have := o.ord j j0 (by omega)
        rw [h1] at this; exact this
    refine ⟨⟨q1, ?_⟩, q2, q3, q4, fun w => ?_⟩
    · rw [q2, hd]
      have := a.settleOrd (by rw [b]; exact hh) hu
      rwa [b] at this
    · rw [hd]
      have := a.in_settle (i := (h.place v).toNat) (by rw [b]; exact hh) w
      rw [b] at this
      exact this.trans (hin w)
  · have hd : dropH h v = cutH h v := by unfold dropH; rw [if_neg hh]
    refine ⟨⟨q1, ?_⟩, q2, q3, q4, fun w => by rw [hd]; exact hin w⟩
    rw [q2, hd]
    intro j j0 jn
    rw [e2 _ (by omega), e2 _ jn, if_neg (by omega), if_neg (by omega)]; exact o.ord j j0 (by omega)
theorem HG.min {h : Hq} (o : HG h) {w : Nat} (hw : w < h.pl.length) (hp : 0 ≤ h.place w) : le2 (h.kk 0) (h.key w, w) := by
  obtain ⟨_, b⟩ := o.hi.at_ w hw hp
  have hlt := o.hi.lt hw hp
  have : ∀ j, j < h.it.length → le2 (h.kk 0) (h.kk j) := by
    intro j
    induction j using Nat.strongRecOn with
    | _ j ih =>
      intro hj
      by_cases e : j = 0
      · subst e; exact le2_refl _
      · exact le2_trans (ih ((j - 1) / 2) (by omega) (by omega)) (o.ord j (by omega) hj)
  have q := this _ hlt
  unfold Hq.kk at q ⊢
  rw [b] at q; exact q
open Go Go.RT
/- walks and distances -/
structure VG (es : List Edg) (r n : Nat) : Prop where
  f : ∀ e ∈ es, 0 ≤ e.f ∧ e.f < n
  t : ∀ e ∈ es, 0 ≤ e.t ∧ e.t < n
  c : ∀ e ∈ es, 0 ≤ e.c ∧ e.c ≤ 65535
  net : ∀ e ∈ es, (r : Int) ≤ e.f → e.t < r ∧ e.c = 0
  rt : ∀ e ∈ es, e.f < (r : Int) → 1 ≤ e.c
  ne : ∀ e ∈ es, e.f ≠ e.t
  asc : AscK es
  le : r ≤ n
  n128 : n ≤ 128
  e1024 : es.length ≤ 1024
inductive Wk (es : List Edg) (a : Nat) : Nat → Int → Prop where
  | nil : Wk es a a 0
  | snoc {e : Edg} {c : Int} : Wk es a e.f.toNat c → e ∈ es → Wk es a e.t.toNat (c + e.c)
theorem Wk.app {es : List Edg} {a b v : Nat} {c d : Int} (h : Wk es a b c) (g : Wk es b v d) : Wk es a v (c + d) := by
  induction g with
  | nil => simpa using h
  | snoc g he ih => have := Wk.snoc ih he; rwa [Int.add_assoc] at this
theorem Wk.nn {es : List Edg} {r n : Nat} (vg : VG es r n) {a v : Nat} {c : Int} (h : Wk es a v c) : 0 ≤ c := by
  induction h with
  | nil => exact Int.le_refl _
  | snoc h he ih => have := (vg.c _ he).1; omega
theorem Wk.lt {es : List Edg} {r n : Nat} (vg : VG es r n) {a v : Nat} {c : Int} (h : Wk es a v c) (ha : a < n) : v < n := by
  cases h with
  | nil => exact ha
  | snoc h he => have := (vg.t _ he); omega
theorem Wk.mono {es es' : List Edg} (hs : ∀ e ∈ es, e ∈ es') {a v : Nat} {c : Int} (h : Wk es a v c) : Wk es' a v c := by
  induction h with
  | nil => exact .nil
  | snoc h he ih => exact .snoc ih (hs _ he)
def IsD (es : List Edg) (a v : Nat) (d : Int) : Prop := (d = -1 ∧ ∀ c, ¬ Wk es a v c) ∨ (Wk es a v d ∧ ∀ c, Wk es a v c → d ≤ c)
theorem IsD.uniq {es : List Edg} {a v : Nat} {d d' : Int} (h : IsD es a v d) (g : IsD es a v d') : d = d' := by
  rcases h with ⟨h1, h2⟩ | ⟨h1, h2⟩ <;> rcases g with ⟨g1, g2⟩ | ⟨g1, g2⟩
  · omega
  · exact absurd g1 (h2 _)
  · exact absurd h1 (g2 _)
  · have := h2 _ g1; have := g2 _ h1; omega
theorem nodup_len : ∀ (n : Nat) (l : List Nat), l.Nodup → (∀ x ∈ l, x < n) → l.length ≤ n
  | 0, l, _, h => by cases l with
    | nil => simp
    | cons x l => have := h x (by simp); omega
  | n + 1, l, hd, h => by
    by_cases hm : n ∈ l
    · have := nodup_len n (l.erase n) (hd.erase n) (fun x hx => by
        have h1 := h x (List.mem_of_mem_erase hx)
        have h2 : x ≠ n := fun e => by rw [e] at hx; exact (List.Nodup.not_mem_erase hd) hx
        omega)
      rw [List.length_erase_of_mem hm] at this; omega
    · have := nodup_len n l hd (fun x hx => by
        have h1 := h x hx
        have h2 : x ≠ n := fun e => hm (by rw [← e]; exact hx)
        omega)
      omega
theorem HI.small {h : Hq} (o : HI h) : h.it.length ≤ h.pl.length := by
  refine nodup_len _ _ ?_ o.ok.lt
  rw [List.Nodup, List.pairwise_iff_getElem]
  intro i j hi hj hij e
  have e1 : ∀ k (hk : k < h.it.length), h.item k = h.it[k] := fun k hk => by unfold Hq.item; rw [List.getD_eq_getElem?_getD, List.getElem?_eq_getElem hk]; rfl
  have h1 := o.inv i hi
  have h2 := o.inv j hj
  rw [e1 i hi] at h1; rw [e1 j hj] at h2
  rw [e, h2] at h1; omega
abbrev gt0 (l : List Int) (v : Nat) : Int := l.getD v 0
def cntP (l : List Int) : Nat := l.countP fun x => decide (0 ≤ x)
theorem cntP_cons (x : Int) (l : List Int) : cntP (x :: l) = cntP l + if 0 ≤ x then 1 else 0 := by
  unfold cntP; rw [List.countP_cons]; simp
theorem cntP_set {l : List Int} {v : Nat} {k : Int} (hv : v < l.length) (hn : gt0 l v < 0) (hk : 0 ≤ k) : cntP (l.set v k) = cntP l + 1 := by
  induction l generalizing v with
  | nil => simp at hv
  | cons x l ih =>
    cases v with
    | zero =>
      have h1 : x < 0 := by simpa [gt0] using hn
      rw [List.set_cons_zero, cntP_cons, cntP_cons, if_pos hk, if_neg (by omega)]
    | succ v =>
      rw [List.set_cons_succ, cntP_cons, cntP_cons, ih (by simpa using hv) (by simpa [gt0] using hn)]; omega
theorem cntP_le (l : List Int) : cntP l ≤ l.length := List.countP_le_length
structure DJ (es : List Edg) (n : Nat) (a : Nat) (dist : List Int) (h : Hq) (todo : List Edg) : Prop where
  hg : HG h
  hl : h.pl.length = n
  dl : dist.length = n
  fin : ∀ v, v < n → 0 ≤ gt0 dist v → Wk es a v (gt0 dist v) ∧ ∀ c, Wk es a v c → gt0 dist v ≤ c
  neg : ∀ v, v < n → gt0 dist v < 0 → gt0 dist v = -1
  q : ∀ v, v < n → 0 ≤ h.place v → gt0 dist v < 0 ∧ Wk es a v (h.key v) ∧ h.key v ≤ 65535 * cntP dist
  rel : ∀ e ∈ es, 0 ≤ gt0 dist e.f.toNat → e ∈ todo ∨ 0 ≤ gt0 dist e.t.toNat ∨ (0 ≤ h.place e.t.toNat ∧ h.key e.t.toNat ≤ gt0 dist e.f.toNat + e.c)
  root : 0 ≤ gt0 dist a ∨ (0 ≤ h.place a ∧ h.key a ≤ 0)
theorem DJ.low {es : List Edg} {r n a : Nat} (vg : VG es r n) (ha : a < n) {dist : List Int} {h : Hq} (o : DJ es n a dist h []) {v : Nat} {c : Int} (w : Wk es a v c) : 0 ≤ gt0 dist v ∨ ∃ y, y < n ∧ 0 ≤ h.place y ∧ h.key y ≤ c := by
  induction w with
  | nil => rcases o.root with h1 | ⟨h1, h2⟩
           · exact .inl h1
           · exact .inr ⟨a, ha, h1, h2⟩
  | @snoc e c w he ih =>
    have hc := vg.c _ he
    rcases ih with h1 | ⟨y, y1, y2, y3⟩
    · have hfl : e.f.toNat < n := w.lt vg ha
      have h2 := (o.fin _ hfl h1).2 _ w
      rcases o.rel e he h1 with h3 | h3 | ⟨h3, h4⟩
      · cases h3
      · exact .inl h3
      · exact .inr ⟨_, by have := vg.t _ he; omega, h3, by omega⟩
    · exact .inr ⟨y, y1, y2, by omega⟩
theorem key_set {h : Hq} {v : Nat} {k : Int} (hv : v < h.ky.length) {h' : Hq} (e : h'.ky = h.ky.set v k) (w : Nat) : h'.key w = if v = w then k else h.key w := by
  unfold Hq.key; rw [e, getD_set _ _ _ _ _ hv]
theorem DJ.pop {es : List Edg} {r n a : Nat} (vg : VG es r n) (ha : a < n) {dist : List Int} {h : Hq} (o : DJ es n a dist h []) (hne : 0 < h.it.length) :
    h.item 0 < n ∧ gt0 dist (h.item 0) < 0 ∧ 0 ≤ h.key (h.item 0) ∧ h.key (h.item 0) ≤ 65535 * cntP dist ∧ cntP (dist.set (h.item 0) (h.key (h.item 0))) = cntP dist + 1 ∧
    DJ es n a (dist.set (h.item 0) (h.key (h.item 0))) (dropH h (h.item 0)) (es.filter fun e => decide (e.f = (h.item 0 : Nat))) := by
  have hx : h.item 0 < n := by rw [← o.hl]; exact o.hg.hi.ok.item hne
  have hp : 0 ≤ h.place (h.item 0) := by rw [o.hg.hi.inv 0 hne]; decide
  have hmin := fun w hw hp => o.hg.min (w := w) (by rw [o.hl]; exact hw) hp
  obtain ⟨d1, d2, d3, d4, d5⟩ := o.hg.drop (by rw [o.hl]; exact hx) hp
  obtain ⟨q1, q2, q3⟩ := o.q _ hx hp
  have hk0 := q2.nn vg
  have hbest : ∀ c, Wk es a (h.item 0) c → h.key (h.item 0) ≤ c := fun c w => by
    rcases o.low vg ha w with h1 | ⟨y, y1, y2, y3⟩
    · omega
    · have := hmin y y1 y2; unfold le2 Hq.kk at this; simp only at this; omega
  unfold Hq.kk at hmin
  generalize h.item 0 = x at *
  generalize h.key x = k at *
  have hkey : ∀ w, (dropH h x).key w = h.key w := fun w => by unfold Hq.key; rw [d4]
  have hget : ∀ v, gt0 (dist.set x k) v = if x = v then k else gt0 dist v := fun v => getD_set _ _ _ _ _ (by rw [o.dl]; exact hx)
  have hcnt := cntP_set (l := dist) (k := k) (by rw [o.dl]; exact hx) q1 hk0
  refine ⟨hx, q1, hk0, q3, hcnt, d1, by rw [d3, o.hl], by rw [List.length_set, o.dl], fun v hv h0 => ?_, fun v hv h0 => ?_, fun v hv h0 => ?_, fun e he h0 => ?_, ?_⟩
  · rw [hget] at h0 ⊢
    by_cases e : x = v
    · subst e; rw [if_pos rfl]; exact ⟨q2, hbest⟩
    · rw [if_neg e] at h0 ⊢; exact o.fin v hv h0
  · rw [hget] at h0 ⊢
    by_cases e : x = v
    · rw [if_pos e] at h0; omega
    · rw [if_neg e] at h0 ⊢; exact o.neg v hv h0
  · obtain ⟨e1, e2⟩ := (d5 v).1 h0
    obtain ⟨s1, s2, s3⟩ := o.q v hv e2
    rw [hget, if_neg (fun e => e1 e.symm), hkey, hcnt]
    exact ⟨s1, s2, by omega⟩
  · rw [hget] at h0
    have hef := vg.f e he
    by_cases e1 : x = e.f.toNat
    · refine .inl (List.mem_filter.2 ⟨he, ?_⟩)
      rw [decide_eq_true_eq]; omega
    · rw [if_neg e1] at h0
      rcases o.rel e he h0 with h3 | h3 | ⟨h3, h4⟩
      · cases h3
      · refine .inr (.inl ?_)
        rw [hget]; split
        · exact hk0
        · exact h3
      · by_cases e2 : x = e.t.toNat
        · refine .inr (.inl ?_)
          rw [hget, if_pos e2]; exact hk0
        · refine .inr (.inr ⟨(d5 _).2 ⟨fun e => e2 e.symm, h3⟩, ?_⟩)
          rw [hkey, hget, if_neg e1]; exact h4
  · by_cases e2 : x = a
    · rw [hget, if_pos e2]; exact .inl hk0
    · rw [hget, if_neg e2, hkey]
      rcases o.root with h1 | ⟨h1, h2⟩
      · exact .inl h1
      · exact .inr ⟨(d5 _).2 ⟨fun e => e2 e.symm, h1⟩, h2⟩
theorem DJ.skip {es : List Edg} {r n a : Nat} (vg : VG es r n) {dist : List Int} {h : Hq} {e : Edg} {todo : List Edg} (o : DJ es n a dist h (e :: todo))
    (hc : ¬ (gt0 dist e.t.toNat < 0 ∧ (h.place e.t.toNat < 0 ∨ gt0 dist e.f.toNat + e.c < h.key e.t.toNat))) : DJ es n a dist h todo := by
  refine ⟨o.hg, o.hl, o.dl, o.fin, o.neg, o.q, fun e' he' h0 => ?_, o.root⟩
  rcases o.rel e' he' h0 with h3 | h3
  · rcases List.mem_cons.1 h3 with rfl | h3
    · refine .inr ?_
      by_cases h4 : 0 ≤ gt0 dist e'.t.toNat
      · exact .inl h4
      · refine .inr ⟨?_, ?_⟩
        · exact Int.not_lt.1 fun h5 => hc ⟨by omega, .inl h5⟩
        · exact Int.not_lt.1 fun h5 => hc ⟨by omega, .inr h5⟩
    · exact .inl h3
  · exact .inr h3
theorem DJ.put {es : List Edg} {r n a : Nat} (vg : VG es r n) {dist : List Int} {h : Hq} {e : Edg} {todo : List Edg} (he : e ∈ es) (o : DJ es n a dist h (e :: todo)) (hf : 0 ≤ gt0 dist e.f.toNat) (hb : gt0 dist e.f.toNat + 65535 ≤ 65535 * cntP dist)
    (hc : gt0 dist e.t.toNat < 0 ∧ (h.place e.t.toNat < 0 ∨ gt0 dist e.f.toNat + e.c < h.key e.t.toNat)) : DJ es n a dist (setH h e.t.toNat (gt0 dist e.f.toNat + e.c)) todo := by
  have hef := vg.f e he
  have het := vg.t e he
  have hec := vg.c e he
  have htl : e.t.toNat < h.pl.length := by rw [o.hl]; omega
  obtain ⟨s1, s2, s3, s4⟩ := o.hg.set htl (gt0 dist e.f.toNat + e.c)
  have hkey := key_set (by rw [← o.hg.hi.ok.len]; exact htl) s3
  have hw : Wk es a e.t.toNat (gt0 dist e.f.toNat + e.c) := .snoc (o.fin _ (by omega) hf).1 he
  refine ⟨s1, by rw [s2, o.hl], o.dl, o.fin, o.neg, fun v hv h0 => ?_, fun e' he' h0 => ?_, ?_⟩
  · rw [hkey]
    by_cases e1 : e.t.toNat = v
    · rw [if_pos e1]; subst e1; exact ⟨hc.1, hw, by omega⟩
    · rw [if_neg e1]
      rcases (s4 v).1 h0 with h1 | h1
      · exact absurd h1.symm e1
      · exact o.q v hv h1
  · rcases o.rel e' he' h0 with h3 | h3 | ⟨h3, h4⟩
    · rcases List.mem_cons.1 h3 with rfl | h3
      · refine .inr (.inr ⟨(s4 _).2 (.inl rfl), ?_⟩)
        rw [hkey, if_pos rfl]; exact Int.le_refl _
      · exact .inl h3
    · exact .inr (.inl h3)
    · refine .inr (.inr ⟨(s4 _).2 (.inr h3), ?_⟩)
      rw [hkey]
      by_cases e1 : e.t.toNat = e'.t.toNat
      · rw [if_pos e1]
        rcases hc.2 with h5 | h5
        · rw [← e1] at h3; omega
        · rw [← e1] at h4; omega
      · rw [if_neg e1]; exact h4
  · rcases o.root with h1 | ⟨h1, h2⟩
    · exact .inl h1
    · refine .inr ⟨(s4 _).2 (.inr h1), ?_⟩
      rw [hkey]
      by_cases e1 : e.t.toNat = a
      · rw [if_pos e1]
        rcases hc.2 with h5 | h5
        · rw [← e1] at h1; omega
        · rw [← e1] at h2; omega
      · rw [if_neg e1]; exact h2
theorem DJ.done {es : List Edg} {r n a : Nat} (vg : VG es r n) (ha : a < n) {dist : List Int} {h : Hq} (o : DJ es n a dist h []) (he : h.it = []) {v : Nat} (hv : v < n) : IsD es a v (gt0 dist v) := by
  by_cases h0 : 0 ≤ gt0 dist v
  · exact .inr (o.fin v hv h0)
  · refine .inl ⟨o.neg v hv (by omega), fun c w => ?_⟩
    rcases o.low vg ha w with h1 | ⟨y, y1, y2, y3⟩
    · exact h0 h1
    · have := (o.hg.hi.at_ y (by rw [o.hl]; exact y1) y2).1
      rw [he] at this; simp at this; omega
theorem checkI_vg {g : Gr} (h : checkI g = 0) : VG g.es g.r.toNat (g.r + g.n).toNat ∧ 0 ≤ g.r ∧ 0 ≤ g.n := by
  obtain ⟨⟨h1, h2, h3⟩, h4, h5⟩ := checkI_ok h
  have hal := chkL_alw _ _ h5
  have hn := fun e he => alwI_node (hal e he)
  have hx : ∀ e ∈ g.es, ¬ (e.f = e.t ∨ (g.r ≤ e.f ∧ g.r ≤ e.t) ∨ (g.r ≤ e.f ∧ e.c ≠ 0) ∨ (e.f < g.r ∧ (e.c < 1 ∨ 65535 < e.c))) := fun e he hh => by
    have h6 := hal e he
    unfold alwI at h6
    split at h6
    · cases h6
    · first | (rw [if_pos hh] at h6; cases h6) | cases h6
  have hasc : ∀ (l : List Edg) (p : Option Edg), chkL g p l = 0 → AscK l ∧ ∀ q, p = some q → ∀ e ∈ l, ltK q e := by
    intro l
    induction l with
    | nil => exact fun p _ => ⟨.nil, fun q _ e he => by cases he⟩
    | cons x l ih =>
      intro p hp
      simp only [chkL] at hp
      split at hp
      · next h7 => exact absurd hp h7
      · split at hp
        · cases hp
        · next h8 =>
          obtain ⟨i1, i2⟩ := ih _ hp
          refine ⟨List.pairwise_cons.2 ⟨fun y hy => i2 x rfl y hy, i1⟩, fun q hq e he => ?_⟩
          subst hq
          have h9 : ltK q x := by rw [← ltK_bef]; simpa [badP] using h8
          rcases List.mem_cons.1 he with rfl | he
          · exact h9
          · have := i2 x rfl e he; unfold ltK at *; omega
  refine ⟨⟨fun e he => ?_, fun e he => ?_, fun e he => ?_, fun e he hr => ?_, fun e he hr => ?_, fun e he hr => ?_, (hasc _ _ h5).1, by omega, by omega, h4⟩, h1, h2⟩
  · have := hn e he; omega
  · have := hn e he; omega
  · have := hx e he; omega
  · have := hx e he; omega
  · have := hx e he; omega
  · have := hx e he; omega
open Go Go.RT
def newH (n : Nat) : Hq := ⟨[], List.replicate n (-1), List.replicate n 0⟩
def fillN (n k : Nat) : List Int := List.replicate k (-1) ++ List.replicate (n - k) 0
theorem fillN_len (n k : Nat) (h : k ≤ n) : (fillN n k).length = n := by simp [fillN]; omega
theorem fillN_set (n k : Nat) (h : k < n) : (fillN n k).set k (-1) = fillN n (k + 1) := by
  unfold fillN
  rw [List.set_append_right _ _ (by simp), List.length_replicate, Nat.sub_self, show n - k = (n - (k + 1)) + 1 by omega, List.replicate_succ, List.set_cons_zero, List.replicate_succ', List.append_assoc]; rfl
theorem fillN_0 (n : Nat) : fillN n 0 = List.replicate n 0 := by simp [fillN]
theorem fillN_n (n : Nat) : fillN n n = List.replicate n (-1) := by simp [fillN]
theorem getD_rep {α : Type} (n v : Nat) (x d : α) (h : v < n) : (List.replicate n x).getD v d = x := by
  rw [List.getD_eq_getElem?_getD, List.getElem?_replicate, if_pos h]; rfl
theorem HG.new (n : Nat) : HG (newH n) :=
  ⟨⟨⟨by simp [newH], fun v h => by simp [newH] at h⟩, fun v hv h0 => by
    have : (newH n).place v = -1 := getD_rep _ _ _ _ (by simpa [newH] using hv)
    rw [this] at h0; omega, fun i hi => by simp [newH] at hi⟩, fun j _ hj => by simp [newH] at hj⟩
theorem DJ.start {es : List Edg} {r n a : Nat} (vg : VG es r n) (ha : a < n) : DJ es n a (List.replicate n (-1)) (setH (newH n) a 0) [] ∧ cntP (List.replicate n (-1)) = 0 := by
  obtain ⟨s1, s2, s3, s4⟩ := (HG.new n).set (v := a) (by simpa [newH] using ha) 0
  have hg : ∀ v, v < n → gt0 (List.replicate n (-1)) v = -1 := fun v hv => getD_rep _ _ _ _ hv
  have hkey := key_set (h := newH n) (v := a) (by simpa [newH] using ha) s3
  have hp : ∀ v, v < n → (newH n).place v = -1 := fun v hv => getD_rep _ _ _ _ hv
  have hc : cntP (List.replicate n (-1)) = 0 := by unfold cntP; rw [List.countP_replicate]; simp
  refine ⟨⟨s1, by rw [s2]; simp [newH], by simp, fun v hv h0 => ?_, fun v hv _ => hg v hv, fun v hv h0 => ?_, fun e he h0 => ?_, .inr ⟨(s4 a).2 (.inl rfl), ?_⟩⟩, hc⟩
  · rw [hg v hv] at h0; omega
  · rw [hg v hv, hc]
    rcases (s4 v).1 h0 with rfl | h1
    · rw [hkey, if_pos rfl]; exact ⟨by omega, .nil, by omega⟩
    · rw [hp v hv] at h1; omega
  · have := vg.f e he
    rw [hg _ (by omega)] at h0; omega
  · rw [hkey, if_pos rfl]; exact Int.le_refl _
/- rows of own slices -/
theorem rng_len {β : Type} (n : Nat) (f : Nat → β) : ((List.range n).map f).length = n := by simp
theorem rng_get {β : Type} (n : Nat) (f : Nat → β) (v : Nat) (h : v < n) : ((List.range n).map f)[v]? = some (f v) := by simp [h]
theorem rng_set {β : Type} (n : Nat) (f f' : Nat → β) (v : Nat) (x : β) (hx : f' v = x) (h : ∀ w, w ≠ v → f' w = f w) : ((List.range n).map f).set v x = (List.range n).map f' := by
  apply List.ext_getElem?
  intro i
  rw [List.getElem?_set]
  by_cases e : v = i
  · subst e
    by_cases hv : v < n
    · simp [hv, hx]
    · simp [hv]
  · rw [if_neg e]
    by_cases hi : i < n
    · simp [hi, h i (fun e2 => e e2.symm)]
    · simp [hi]
theorem rng_const {β : Type} (n : Nat) (x : β) : List.replicate n x = (List.range n).map fun _ => x := by
  apply List.ext_getElem?
  intro i
  by_cases hi : i < n
  · simp [hi]
  · simp [hi]
def outE (es : List Edg) (v : Nat) : List Edg := es.filter fun e => decide (e.f = (v : Nat))
def rowsE (es : List Edg) (n : Nat) : List (List (List FV)) := (List.range n).map fun v => (outE es v).map encE
theorem outE_succ {es : List Edg} {i : Nat} (h : i < es.length) (v : Nat) : outE (es.take (i + 1)) v = outE (es.take i) v ++ if es[i].f = (v : Nat) then [es[i]] else [] := by
  unfold outE
  rw [← List.take_append_getElem h, List.filter_append]
  congr 1
  by_cases e : es[i].f = (v : Nat)
  · simp [e]
  · simp [e]
theorem rowsE_succ {es : List Edg} {i n : Nat} (h : i < es.length) (h0 : 0 ≤ es[i].f) : (rowsE (es.take i) n).set es[i].f.toNat ((outE (es.take i) es[i].f.toNat).map encE ++ [encE es[i]]) = rowsE (es.take (i + 1)) n := by
  refine rng_set n _ _ _ _ ?_ fun w hw => ?_
  · rw [outE_succ h, if_pos (by omega), List.map_append]; rfl
  · rw [outE_succ h, if_neg (by omega), List.append_nil]
theorem rowsE_get (es : List Edg) {n v : Nat} (h : v < n) : (rowsE es n)[v]? = some ((outE es v).map encE) := rng_get n _ v h
theorem rowsE_nil (n : Nat) : rowsE [] n = List.replicate n [] := (rng_const n _).symm
theorem rowsE_len (es : List Edg) (n : Nat) : (rowsE es n).length = n := rng_len n _
open Go Go.RT
def encLL (l : List Int) : List FV := [VI l]
abbrev VLL (ll : List (List Int)) : FV := .vals 1 (ll.map encLL)
def rowsI (ll : List (List Int)) : List (List (List FV)) := ll.map fun l => l.map encN
theorem fz_rowsI (ll : List (List Int)) : fzL 1 (rowsI ll) = ll.map encLL := by simp [fzL, rowsI, encLL]
theorem rowsI_len (ll : List (List Int)) : (rowsI ll).length = ll.length := by simp [rowsI]
theorem rowsI_set (ll : List (List Int)) (v : Nat) (l : List Int) : (rowsI ll).set v (l.map encN) = rowsI (ll.set v l) := by unfold rowsI; rw [List.map_set]
theorem rowsI_get {ll : List (List Int)} {v : Nat} (h : v < ll.length) : (rowsI ll)[v]? = some ((ll.getD v []).map encN) := by
  unfold rowsI; rw [List.getElem?_map, List.getD_eq_getElem?_getD, List.getElem?_eq_getElem h]; rfl
theorem rowsI_nil (n : Nat) : rowsI (List.replicate n []) = List.replicate n [] := by simp [rowsI]
def parC (a : Nat) (d : List Int) (e : Edg) : Bool := decide (e.t ≠ (a : Int)) && decide (gt0 d e.f.toNat ≠ -1) && decide (gt0 d e.f.toNat + e.c = gt0 d e.t.toNat)
def parE (es : List Edg) (a : Nat) (d : List Int) (v : Nat) : List Int := (es.filter fun e => parC a d e && decide (e.t = (v : Int))).map (·.f)
def parL (es : List Edg) (a : Nat) (d : List Int) (n : Nat) : List (List Int) := (List.range n).map (parE es a d)
theorem parE_succ {es : List Edg} {i a : Nat} {d : List Int} (h : i < es.length) (v : Nat) : parE (es.take (i + 1)) a d v = parE (es.take i) a d v ++ if parC a d es[i] = true ∧ es[i].t = (v : Int) then [es[i].f] else [] := by
  unfold parE
  rw [← List.take_append_getElem h, List.filter_append, List.map_append]
  congr 1
  by_cases e : parC a d es[i] = true ∧ es[i].t = (v : Int)
  · rw [if_pos e]; simp [e.1, e.2]
  · rw [if_neg e]
    have : (parC a d es[i] && decide (es[i].t = (v : Int))) = false := by
      rw [Bool.eq_false_iff]; intro h; exact e (by simpa using h)
    simp [this]
theorem parL_len (es : List Edg) (a : Nat) (d : List Int) (n : Nat) : (parL es a d n).length = n := rng_len n _
theorem parL_get (es : List Edg) (a : Nat) (d : List Int) {n v : Nat} (h : v < n) : (parL es a d n).getD v [] = parE es a d v := by
  rw [List.getD_eq_getElem?_getD]; unfold parL; rw [rng_get n _ v h]; rfl
theorem parL_yes {es : List Edg} {i a n : Nat} {d : List Int} (h : i < es.length) (h0 : 0 ≤ es[i].t) (hc : parC a d es[i] = true) : (parL (es.take i) a d n).set es[i].t.toNat (parE (es.take i) a d es[i].t.toNat ++ [es[i].f]) = parL (es.take (i + 1)) a d n := by
  refine rng_set n _ _ _ _ ?_ fun w hw => ?_
  · rw [parE_succ h, if_pos ⟨hc, by omega⟩]
  · rw [parE_succ h, if_neg (by omega), List.append_nil]
theorem parL_no {es : List Edg} {i a n : Nat} {d : List Int} (h : i < es.length) (hc : ¬ parC a d es[i] = true) : parL (es.take i) a d n = parL (es.take (i + 1)) a d n := by
  unfold parL
  refine List.map_congr_left fun v _ => ?_
  rw [parE_succ h, if_neg (fun e => hc e.1), List.append_nil]
theorem parL_nil (a : Nat) (d : List Int) (n : Nat) : parL [] a d n = List.replicate n [] := (rng_const n _).symm
open Go Go.RT
/- the order of the nodes in hops -/
theorem perm_sorted_eq {α : Type} {le : α → α → Prop} (anti : ∀ a b, le a b → le b a → a = b) : ∀ (l1 l2 : List α), l1.Perm l2 → l1.Pairwise le → l2.Pairwise le → l1 = l2
  | [], l2, h, _, _ => (List.nil_perm.1 h).symm
  | x :: a, [], h, _, _ => by have := h.length_eq; simp at this
  | x :: a, y :: b, h, h1, h2 => by
    obtain ⟨a1, a2⟩ := List.pairwise_cons.1 h1
    obtain ⟨b1, b2⟩ := List.pairwise_cons.1 h2
    have e : x = y := by
      rcases List.mem_cons.1 (h.mem_iff.1 (List.mem_cons_self ..)) with e | q1
      · exact e
      · rcases List.mem_cons.1 (h.mem_iff.2 (List.mem_cons_self ..)) with e | q2
        · exact e.symm
        · exact anti _ _ (a1 _ q2) (b1 _ q1)
    subst e
    exact congrArg _ (perm_sorted_eq anti a b ((List.perm_cons x).1 h) a2 b2)
def ordH (d : List Int) (x y : Nat) : Int := orI [cmpI (gt0 d x) (gt0 d y), cmpI (y : Int) (x : Int)]
theorem ordH_neg (d : List Int) (x y : Nat) : ordH d x y < 0 ↔ gt0 d x < gt0 d y ∨ gt0 d x = gt0 d y ∧ y < x := by
  have h1 := cmpI_neg (gt0 d x) (gt0 d y)
  have h2 := cmpI_neg (y : Int) (x : Int)
  have h3 := cmpI_zero (gt0 d x) (gt0 d y)
  unfold ordH
  simp only [orI]
  by_cases e : cmpI (gt0 d x) (gt0 d y) ≠ 0
  · rw [if_pos e, h1]; rw [ne_eq, h3] at e; omega
  · rw [if_neg e]
    have e2 : gt0 d x = gt0 d y := h3.1 (by omega)
    by_cases e3 : cmpI (y : Int) (x : Int) ≠ 0
    · rw [if_pos e3, h2]; omega
    · rw [if_neg e3]
      have := (cmpI_zero (y : Int) (x : Int)).1 (by omega)
      omega
def ltHd (d : List Int) (x y : Nat) : Prop := gt0 d x < gt0 d y ∨ gt0 d x = gt0 d y ∧ y < x
end Go.Pl
/- Elements that a test holds for are dropped. -/
namespace Go.Pl
set_option linter.all false
def keepL {α : Type} (p : α → Bool) (l : List α) : List α := l.filter fun x => !p x
def idxAt {α : Type} (p : α → Bool) : Nat → List α → Int
  | _, [] => -1
  | k, x :: l => bif p x then (k : Int) else idxAt p (k + 1) l
theorem idxAt_spec {α : Type} (p : α → Bool) : ∀ (l : List α) (k : Nat), (idxAt p k l = -1 ∧ keepL p l = l) ∨ ∃ j : Nat, ∃ h : j < l.length, idxAt p k l = ((k + j : Nat) : Int) ∧ p l[j] = true ∧ keepL p (l.take j) = l.take j
  | [], k => .inl ⟨rfl, rfl⟩
  | x :: l, k => by
    cases hx : p x with
    | true => exact .inr ⟨0, by simp, by simp [idxAt, hx], by simpa using hx, by simp [keepL]⟩
    | false =>
      have e : idxAt p k (x :: l) = idxAt p (k + 1) l := by simp [idxAt, hx]
      rw [e]
      rcases idxAt_spec p l (k + 1) with ⟨h1, h2⟩ | ⟨j, hj, h1, h2, h3⟩
      · refine .inl ⟨h1, ?_⟩
        unfold keepL at *; simp [hx, h2]
      · refine .inr ⟨j + 1, by simpa using hj, by rw [h1]; omega, by simpa using h2, ?_⟩
        unfold keepL at *; simp [hx, h3]
theorem keep_len {α : Type} (p : α → Bool) (l : List α) : (keepL p l).length ≤ l.length := List.length_filter_le _ _
theorem keep_take {α : Type} (p : α → Bool) (l : List α) (n : Nat) (h : n < l.length) : keepL p (l.take (n + 1)) = keepL p (l.take n) ++ bif p l[n] then [] else [l[n]] := by
  unfold keepL
  rw [List.take_succ_eq_append_getElem h, List.filter_append]
  congr 1
  cases hp : p l[n] <;> simp [hp]
theorem keep_len_lt {α : Type} (p : α → Bool) (l : List α) (j : Nat) (h : j < l.length) (hp : p l[j] = true) (n : Nat) (hn : j < n) (hnl : n ≤ l.length) : (keepL p (l.take n)).length < n := by
  obtain ⟨d, rfl⟩ : ∃ d, n = j + 1 + d := ⟨n - (j + 1), by omega⟩
  clear hn
  induction d with
  | zero =>
    rw [Nat.add_zero, keep_take p l j h, hp, cond_true, List.append_nil]
    have := keep_len p (l.take j)
    simp at this; omega
  | succ d ih =>
    have := ih (by omega)
    rw [← Nat.add_assoc, keep_take p l (j + 1 + d) (by omega), List.length_append]
    cases p l[j + 1 + d] <;> simp <;> omega
end Go.Pl
namespace Go.Pl
set_option linter.all false
/-- binary search: the least place in [i, j) whose element is not below -/
def bsGo {α : Type} (p : α → Bool) (l : List α) (i j : Nat) : Nat :=
  if h : i < j then
    (if h2 : (i + j) / 2 < l.length then
      (bif p l[(i + j) / 2] then bsGo p l ((i + j) / 2 + 1) j else bsGo p l i ((i + j) / 2))
    else i)
  else i
termination_by j - i
theorem bsGo_end {α : Type} (p : α → Bool) (l : List α) (i : Nat) : bsGo p l i i = i := by
  rw [bsGo]; simp
theorem bsGo_step {α : Type} (p : α → Bool) (l : List α) (i j : Nat) (h : i < j) (hj : j ≤ l.length) :
    bsGo p l i j = (bif p (l[(i + j) / 2]'(by omega)) then bsGo p l ((i + j) / 2 + 1) j else bsGo p l i ((i + j) / 2)) := by
  rw [bsGo]; simp [h, show (i + j) / 2 < l.length by omega]
def hitAt {α : Type} (p : α → Bool) (l : List α) (i : Nat) : Bool := match l[i]? with | some e => p e | none => false
theorem bsGo_le {α : Type} (p : α → Bool) (l : List α) : ∀ (n i j : Nat), j - i ≤ n → i ≤ j → j ≤ l.length → i ≤ bsGo p l i j ∧ bsGo p l i j ≤ j
  | n, i, j, hn, hi, hj => by
    rw [bsGo]
    by_cases h : i < j
    · have hm : (i + j) / 2 < l.length := by omega
      simp only [h, hm, dif_pos]
      cases n with
      | zero => omega
      | succ n =>
        cases p l[(i + j) / 2] with
        | true => have := bsGo_le p l n ((i + j) / 2 + 1) j (by omega) (by omega) hj; simp only [cond_true]; omega
        | false => have := bsGo_le p l n i ((i + j) / 2) (by omega) (by omega) (by omega); simp only [cond_false]; omega
    · simp only [h, dif_neg, not_false_eq_true]; omega
/-- over a list on which p is first true and then false -/
theorem bsGo_spec {α : Type} (p : α → Bool) (l : List α) (hm : ∀ a b (ha : a < b) (hb : b < l.length), p l[b] = true → p (l[a]'(by omega)) = true) :
    ∀ (n i j : Nat), j - i ≤ n → (hi : i ≤ j) → (hj : j ≤ l.length) →
      (∀ k (hk : k < i), p (l[k]'(by omega)) = true) → (∀ k (hk : j ≤ k) (hl : k < l.length), p l[k] = false) →
      (∀ k (hk : k < bsGo p l i j) (hl : k < l.length), p l[k] = true) ∧ (∀ k (hk : bsGo p l i j ≤ k) (hl : k < l.length), p l[k] = false)
  | n, i, j, hn, hi, hj, h1, h2 => by
    rw [bsGo]
    by_cases h : i < j
    · have hmm : (i + j) / 2 < l.length := by omega
      simp only [h, hmm, dif_pos]
      cases n with
      | zero => omega
      | succ n =>
        cases hp : p l[(i + j) / 2] with
        | true =>
          simp only [cond_true]
          refine bsGo_spec p l hm n ((i + j) / 2 + 1) j (by omega) (by omega) hj ?_ h2
          intro k hk
          by_cases e : k = (i + j) / 2
          · subst e; exact hp
          · exact hm k ((i + j) / 2) (by omega) hmm hp
        | false =>
          simp only [cond_false]
          refine bsGo_spec p l hm n i ((i + j) / 2) (by omega) (by omega) (by omega) h1 ?_
          intro k hk hl
          by_cases e : k = (i + j) / 2
          · subst e; exact hp
          · cases hq : p l[k] with
            | false => rfl
            | true => have := hm ((i + j) / 2) k (by omega) hl hq; rw [hp] at this; exact absurd this (by simp)
    · simp only [h, dif_neg, not_false_eq_true]
      have : i = j := by omega
      exact ⟨fun k hk _ => h1 k hk, fun k hk hl => h2 k (by omega) hl⟩
end Go.Pl
namespace Go.Pl
theorem hitAt_eq {α : Type} [Inhabited α] (l : List α) (i : Nat) (p : α → Bool) : ∃ q, (i < l.length → l[i]? = some q) ∧ hitAt p l i = (decide ((i : Int) < (l.length : Int)) && p q) := by
  by_cases h : i < l.length
  · exact ⟨l[i], fun _ => List.getElem?_eq_getElem h, by simp [hitAt, h]⟩
  · exact ⟨default, fun h' => absurd h' h, by simp [hitAt, h]⟩
open Go.RT
def zE : Edg := ⟨0, 0, 0⟩
end Go.Pl
namespace Go.Pl
set_option linter.all false
/-- x put in ahead of place i -/
def insL {α : Type} (l : List α) (i : Nat) (x : α) : List α := l.take i ++ x :: l.drop i
theorem insL_len {α : Type} (l : List α) (i : Nat) (x : α) (h : i ≤ l.length) : (insL l i x).length = l.length + 1 := by simp [insL]; omega
theorem insL_map {α β : Type} (f : α → β) (l : List α) (i : Nat) (x : α) : (insL l i x).map f = insL (l.map f) i (f x) := by simp [insL]
/-- the rows behind the copies of slices.Insert, where it grows -/
theorem ins_grow {β : Type} (l : List β) (i : Nat) (x z : β) (h : i < l.length) :
    (((l.take i ++ List.replicate (l.length + 1 - i) z).take i ++ [x] ++ (l.take i ++ List.replicate (l.length + 1 - i) z).drop (i + 1)).take (i + 1) ++ l.drop i ++
      ((l.take i ++ List.replicate (l.length + 1 - i) z).take i ++ [x] ++ (l.take i ++ List.replicate (l.length + 1 - i) z).drop (i + 1)).drop (i + 1 + (l.length - i))) = insL l i x := by
  have h1 : (l.take i).length = i := by simp; omega
  have e1 : (l.take i ++ List.replicate (l.length + 1 - i) z).take i = l.take i := by rw [List.take_append_of_le_length (by omega), List.take_take]; simp
  rw [e1]
  generalize hd : (l.take i ++ List.replicate (l.length + 1 - i) z).drop (i + 1) = d
  have hdl : d.length = l.length - i := by rw [← hd]; simp; omega
  have h2 : (l.take i ++ [x]).length = i + 1 := by simp; omega
  have e2 : (l.take i ++ [x] ++ d).take (i + 1) = l.take i ++ [x] := by rw [List.take_append_of_le_length (by omega), List.take_of_length_le (by omega)]
  have e3 : (l.take i ++ [x] ++ d).drop (i + 1 + (l.length - i)) = [] := List.drop_of_length_le (by rw [List.length_append, h2, hdl]; omega)
  rw [e2, e3]
  simp [insL]
/-- .. where there is room -/
theorem ins_room {β : Type} (l : List β) (i : Nat) (x : β) (h : i < l.length) :
    ((l.take (i + 1) ++ l.drop i ++ l.drop (i + 1 + (l.length - i))).take i ++ [x] ++ (l.take (i + 1) ++ l.drop i ++ l.drop (i + 1 + (l.length - i))).drop (i + 1)) = insL l i x := by
  have e0 : l.drop (i + 1 + (l.length - i)) = [] := List.drop_of_length_le (by omega)
  have h1 : (l.take (i + 1)).length = i + 1 := by simp; omega
  rw [e0, List.append_nil]
  have e1 : (l.take (i + 1) ++ l.drop i).take i = l.take i := by rw [List.take_append_of_le_length (by omega), List.take_take, Nat.min_eq_left (by omega)]
  have e2 : (l.take (i + 1) ++ l.drop i).drop (i + 1) = l.drop i := by rw [List.drop_append_of_le_length (by omega), List.drop_of_length_le (by omega)]; rfl
  rw [e1, e2]
  simp [insL]
open Go Go.RT
/- merge: a number put into an ascending list, once -/
def bsI (l : List Int) (x : Int) : Nat := bsGo (fun e => decide (e < x)) l 0 l.length
def hitI (l : List Int) (x : Int) : Bool := hitAt (fun e => decide (e = x)) l (bsI l x)
def insU (l : List Int) (x : Int) : List Int := if hitI l x = true then l else insL l (bsI l x) x
theorem bsI_le (l : List Int) (x : Int) : bsI l x ≤ l.length := (bsGo_le (fun e => decide (e < x)) l (l.length) 0 l.length (by omega) (Nat.zero_le _) (Nat.le_refl _)).2
def capV (r : Int) (v : Nat) (h : Int) : Int := if r ≤ h then (v : Int) else h
open Go Go.RT
/- hops, as the program makes them -/
theorem insU_spec {l : List Int} (h : Asc l) (x : Int) : Asc (insU l x) ∧ ∀ y, y ∈ insU l x ↔ y = x ∨ y ∈ l := by
  have hle := bsI_le l x
  have hg : ∀ a b (ha : a < b) (hb : b < l.length), l[a] < l[b] := fun a b ha hb => List.pairwise_iff_getElem.1 h a b (by omega) hb ha
  have h2 := bsGo_spec (fun e => decide (e < x)) l (fun a b ha hb hp => by
    have := hg a b ha hb
    simp only [decide_eq_true_eq] at hp ⊢; omega) l.length 0 l.length (by omega) (Nat.zero_le _) (Nat.le_refl _) (fun k hk => absurd hk (Nat.not_lt_zero _)) (fun k hk hl => absurd hl (by omega))
  have h3 : ∀ k (hk : k < bsI l x) (hl : k < l.length), l[k] < x := fun k hk hl => by simpa using h2.1 k hk hl
  have h4 : ∀ k (hk : bsI l x ≤ k) (hl : k < l.length), x ≤ l[k] := fun k hk hl => by simpa using h2.2 k hk hl
  unfold insU hitI hitAt
  by_cases hb : bsI l x < l.length
  · rw [List.getElem?_eq_getElem hb]
    simp only [decide_eq_true_eq]
    by_cases he : l[bsI l x] = x
    · rw [if_pos he]
      refine ⟨h, fun y => ⟨fun hy => .inr hy, fun hy => ?_⟩⟩
      rcases hy with h5 | hy
      · rw [h5, ← he]; exact List.getElem_mem hb
      · exact hy
    · rw [if_neg he]
      refine ⟨?_, fun y => ?_⟩
      · unfold insL
        refine List.pairwise_append.2 ⟨h.sublist (List.take_sublist _ _), List.pairwise_cons.2 ⟨fun y hy => ?_, h.sublist (List.drop_sublist _ _)⟩, fun a ha b hb2 => ?_⟩
        · obtain ⟨k, hk, rfl⟩ := List.mem_iff_getElem.1 hy
          rw [List.getElem_drop]
          have q1 := h4 (bsI l x + k) (by omega) (by simp at hk; omega)
          by_cases e : k = 0
          · subst e; simp only [Nat.add_zero] at q1 ⊢; omega
          · have := hg (bsI l x) (bsI l x + k) (by omega) (by simp at hk; omega)
            have := h4 (bsI l x) (Nat.le_refl _) hb
            omega
        · obtain ⟨k, hk, rfl⟩ := List.mem_iff_getElem.1 ha
          rw [List.getElem_take]
          rw [List.length_take] at hk
          have q1 := h3 k (by omega) (by omega)
          rcases List.mem_cons.1 hb2 with rfl | hb2
          · exact q1
          · obtain ⟨k2, hk2, rfl⟩ := List.mem_iff_getElem.1 hb2
            rw [List.getElem_drop]
            simp at hk2
            exact hg k (bsI l x + k2) (by omega) (by omega)
      · unfold insL
        rw [List.mem_append, List.mem_cons]
        have : y ∈ l ↔ y ∈ l.take (bsI l x) ∨ y ∈ l.drop (bsI l x) := by rw [← List.mem_append, List.take_append_drop]
        rw [this]; constructor
        · rintro (h | h | h)
          · exact .inr (.inl h)
          · exact .inl h
          · exact .inr (.inr h)
        · rintro (h | h | h)
          · exact .inr (.inl h)
          · exact .inl h
          · exact .inr (.inr h)
  · have hbe : bsI l x = l.length := by omega
    rw [List.getElem?_eq_none (by omega)]
    rw [if_neg (by simp), hbe]
    unfold insL
    rw [List.take_length, List.drop_length]
    refine ⟨List.pairwise_append.2 ⟨h, by simp, fun a ha b hb2 => ?_⟩, fun y => by simp [or_comm]⟩
    have : b = x := by simpa using hb2
    subst this
    obtain ⟨k, hk, rfl⟩ := List.mem_iff_getElem.1 ha
    exact h3 k (by omega) hk
/-- ascending, all of them nodes -/
def RowOk (n : Nat) (l : List Int) : Prop := Asc l ∧ ∀ x ∈ l, 0 ≤ x ∧ x < n
theorem RowOk.len {n : Nat} {l : List Int} (h : RowOk n l) : l.length ≤ n := by
  have := nodup_len n (l.map Int.toNat) (by
    rw [List.Nodup, List.pairwise_map]
    refine h.1.imp_of_mem fun ha hb hab e => ?_
    have := h.2 _ ha; have := h.2 _ hb; omega) (fun x hx => by
      obtain ⟨y, hy, rfl⟩ := List.mem_map.1 hx
      have := h.2 y hy; omega)
  simpa using this
theorem RowOk.ins {n : Nat} {l : List Int} (h : RowOk n l) {x : Int} (hx : 0 ≤ x ∧ x < n) : RowOk n (insU l x) :=
  ⟨(insU_spec h.1 x).1, fun y hy => by
    rcases ((insU_spec h.1 x).2 y).1 hy with rfl | hy
    · exact hx
    · exact h.2 y hy⟩
abbrev rowAt' (ll : List (List Int)) (v : Nat) : List Int := ll.getD v []
def mergeL (r : Int) (v : Nat) (ll : List (List Int)) (h : Int) : List (List Int) := ll.set v (insU (rowAt' ll v) (capV r v h))
def stepU (r : Int) (a v : Nat) (ll : List (List Int)) (u : Int) : List (List Int) :=
  (rowAt' ll u.toNat).foldl (mergeL r v) (if u = (a : Int) then mergeL r v ll (v : Int) else ll)
def hopsV (r : Int) (a : Nat) (up : List (List Int)) (ll : List (List Int)) (v : Nat) : List (List Int) := (rowAt' up v).foldl (stepU r a v) ll
def hopsL (r : Int) (a n : Nat) (up : List (List Int)) (order : List Nat) : List (List Int) := order.foldl (hopsV r a up) (List.replicate n [])
structure LLok (n : Nat) (ll : List (List Int)) : Prop where
  len : ll.length = n
  row : ∀ v, v < n → RowOk n (rowAt' ll v)
theorem LLok.merge {n : Nat} {ll : List (List Int)} (h : LLok n ll) (r : Int) {v : Nat} (hv : v < n) {x : Int} (hx : 0 ≤ x ∧ x < n) : LLok n (mergeL r v ll x) := by
  refine ⟨by rw [mergeL, List.length_set, h.len], fun w hw => ?_⟩
  unfold mergeL rowAt'
  rw [getD_set _ _ _ _ _ (by rw [h.len]; exact hv)]
  by_cases e : v = w
  · rw [if_pos e]; exact (h.row v hv).ins (by unfold capV; split <;> omega)
  · rw [if_neg e]; exact h.row w hw
theorem merge_other (r : Int) (v : Nat) (ll : List (List Int)) (x : Int) {u : Nat} (h : u ≠ v) : rowAt' (mergeL r v ll x) u = rowAt' ll u := by
  unfold mergeL rowAt'
  rw [List.getD_eq_getElem?_getD, List.getElem?_set_ne (fun e => h e.symm), ← List.getD_eq_getElem?_getD]
theorem foldl_take_succ {α β : Type} (f : β → α → β) (b : β) (l : List α) (i : Nat) (h : i < l.length) : (l.take (i + 1)).foldl f b = f ((l.take i).foldl f b) l[i] := by
  rw [← List.take_append_getElem h, List.foldl_append]; rfl
/-- rows with one cell taken -/
def tkL (irs : List (List (List FV))) (u k : Nat) : List (List PV) := (ownL 1 irs).set u [PV.sl 2 1 0 k]
theorem renO_tk {L : List Nat} (h : renI L 2 = 2) (irs : List (List (List FV))) (u k : Nat) : renO L (.refs 1 (tkL irs u k)) = .refs 1 (tkL irs u k) := by
  have h1 := renO_own L 1 irs
  simp only [renO, Ob.refs.injEq, true_and] at h1 ⊢
  unfold tkL
  rw [List.map_set, h1]
  simp [renPs, renP, h]
theorem ltO_tk {n : Nat} (h : 2 < n) (irs : List (List (List FV))) (u k : Nat) : ltO n (.refs 1 (tkL irs u k)) := fun r hr => by
  rcases List.mem_or_eq_of_mem_set hr with h1 | rfl
  · exact ltO_own n 1 irs r h1
  · simp [ltPs, ltP, Nat.blt_eq, h]
theorem ent_tk {L F : List Nat} {H : Hp} {id : Nat} {irs : List (List (List FV))} {u k : Nat} (h1 : Nat.blt id L.length = true) (h2 : F.contains (renI L id) = false) (hr : renI L 2 = 2) (hl : 2 < L.length) (h3 : hlook H (renI L id) = some (.refs 1 (tkL irs u k))) : Nat.blt id L.length = true ∧ F.contains (renI L id) = false ∧ EntO L F H (renI L id) (.refs 1 (tkL irs u k)) :=
  ent_same h1 h2 (by rw [renO_tk hr]; exact h3) (ltO_tk hl _ _ _)
theorem tk_get {irs : List (List (List FV))} {u v k : Nat} {r : List (List FV)} (hne : u ≠ v) (h : irs[v]? = some r) : (tkL irs u k)[v]? = some [PV.own 1 r] := by
  unfold tkL; rw [List.getElem?_set_ne hne]; exact ownL_get h
theorem tk_len (irs : List (List (List FV))) (u k : Nat) : (tkL irs u k).length = irs.length := by unfold tkL; rw [List.length_set, ownL_len]
theorem tk_back {irs : List (List (List FV))} {u v k : Nat} {x y : List PV} {r : List (List FV)} (hne : u ≠ v) : (((tkL irs u k).set v x).set v y).set v [PV.own 1 r] = tkL (irs.set v r) u k := by
  rw [List.set_set, List.set_set]; unfold tkL
  rw [List.set_comm _ _ (by omega), ownL_set]
theorem tk_back2 {irs : List (List (List FV))} {u v k : Nat} {x : List PV} {r : List (List FV)} (hne : u ≠ v) : ((tkL irs u k).set v x).set v [PV.own 1 r] = tkL (irs.set v r) u k := by
  rw [List.set_set]; unfold tkL
  rw [List.set_comm _ _ (by omega), ownL_set]
theorem tk_put {irs : List (List (List FV))} {u k : Nat} {r : List (List FV)} (h : irs[u]? = some r) : (tkL irs u k).set u [PV.own 1 r] = ownL 1 irs := by
  unfold tkL
  rw [List.set_set, ownL_set]
  congr 1
  apply List.ext_getElem?
  intro i
  rw [List.getElem?_set]
  by_cases e : u = i
  · subst e
    have hlt := (List.getElem?_eq_some_iff.1 h).1
    rw [if_pos rfl, if_pos hlt, h]
  · rw [if_neg e]
open Go Go.RT
def ordP (d : List Int) (a : Nat) (v : Nat) : Bool := decide (gt0 d v ≠ -1) && decide ((v : Int) ≠ (a : Int))
def ordA (d : List Int) (a i : Nat) : List Nat := (List.range i).filter (ordP d a)
theorem ordA_succ (d : List Int) (a i : Nat) : ordA d a (i + 1) = ordA d a i ++ if ordP d a i = true then [i] else [] := by
  unfold ordA
  rw [List.range_succ, List.filter_append]
  congr 1
  by_cases h : ordP d a i = true
  · simp [h]
  · simp [h]
theorem ordA_len (d : List Int) (a i : Nat) : (ordA d a i).length ≤ i := by
  have := List.length_filter_le (ordP d a) (List.range i)
  simpa [ordA] using this
theorem ordA_lt {d : List Int} {a i v : Nat} (h : v ∈ ordA d a i) : v < i := by
  have := (List.mem_filter.1 h).1; simpa using this
theorem LLok.nil (n : Nat) : LLok n (List.replicate n []) := ⟨by simp, fun v hv => by
  have : rowAt' (List.replicate n []) v = [] := getD_rep _ _ _ _ hv
  rw [this]; exact ⟨.nil, fun x h => by cases h⟩⟩
/-- parents: nodes, and others than the node itself -/
structure UpOk (n : Nat) (up : List (List Int)) : Prop where
  len : up.length = n
  row : ∀ v, v < n → (rowAt' up v).length ≤ 2000 ∧ ∀ u ∈ rowAt' up v, 0 ≤ u ∧ u < n ∧ u ≠ (v : Int)
theorem LLok.fold {n : Nat} {r : Int} {v : Nat} (hv : v < n) : ∀ (l : List Int) {ll : List (List Int)}, LLok n ll → (∀ x ∈ l, 0 ≤ x ∧ x < n) → LLok n (l.foldl (mergeL r v) ll)
  | [], _, h, _ => h
  | x :: l, _, h, hx => LLok.fold hv l (h.merge r hv (hx x (by simp))) fun y hy => hx y (by simp [hy])
theorem fold_other {r : Int} {v u : Nat} (huv : u ≠ v) : ∀ (l : List Int) (ll : List (List Int)), rowAt' (l.foldl (mergeL r v) ll) u = rowAt' ll u
  | [], _ => rfl
  | x :: l, ll => (fold_other huv l (mergeL r v ll x)).trans (merge_other r v ll x huv)
theorem LLok.step {n : Nat} {ll : List (List Int)} (h : LLok n ll) (r : Int) {a v : Nat} (hv : v < n) {u : Int} (hu : 0 ≤ u ∧ u < n) : LLok n (stepU r a v ll u) := by
  unfold stepU
  refine LLok.fold hv _ ?_ (h.row u.toNat (by omega)).2
  split
  · exact h.merge r hv (by omega)
  · exact h
theorem LLok.steps {n : Nat} {r : Int} {a v : Nat} (hv : v < n) : ∀ (l : List Int) {ll : List (List Int)}, LLok n ll → (∀ x ∈ l, 0 ≤ x ∧ x < n) → LLok n (l.foldl (stepU r a v) ll)
  | [], _, h, _ => h
  | x :: l, _, h, hx => LLok.steps hv l (h.step r hv (hx x (by simp))) fun y hy => hx y (by simp [hy])
theorem LLok.hops {n : Nat} {r : Int} {a : Nat} {up : List (List Int)} (hu : UpOk n up) : ∀ (l : List Nat) {ll : List (List Int)}, LLok n ll → (∀ x ∈ l, x < n) → LLok n (l.foldl (hopsV r a up) ll)
  | [], _, h, _ => h
  | x :: l, _, h, hx => LLok.hops hu l (LLok.steps (hx x (by simp)) _ h fun y hy => by have := (hu.row x (hx x (by simp))).2 y hy; omega) fun y hy => hx y (by simp [hy])
open Go Go.RT
structure Tr where
  root : Int
  dist : List Int
  hops : List (List Int)
  par : List (List Int)
  deriving DecidableEq
def encTr (t : Tr) : List FV := [If .i64 t.root, VI t.dist, VLL t.hops, VLL t.par]
def zeroT : Tr := ⟨0, [], [], []⟩
/-- what a shortest-path run makes -/
structure RunOk (g : Gr) (a : Nat) (t : Tr) : Prop where
  ok : checkI g = 0
  lt : (a : Int) < g.r
  root : t.root = a
  dl : t.dist.length = (g.r + g.n).toNat
  dist : ∀ v, v < (g.r + g.n).toNat → IsD g.es a v (gt0 t.dist v)
  par : t.par = parL g.es a t.dist (g.r + g.n).toNat
  hops : ∃ l2 : List Nat, l2.Perm (ordA t.dist a (g.r + g.n).toNat) ∧ l2.Pairwise (ltHd t.dist) ∧ t.hops = hopsL g.r a (g.r + g.n).toNat t.par l2
theorem IsD.ge {es : List Edg} {r n a v : Nat} {d : Int} (vg : VG es r n) (h : IsD es a v d) : -1 ≤ d := by
  rcases h with ⟨h, _⟩ | ⟨h, _⟩
  · omega
  · have := h.nn vg; omega
theorem parE_len (es : List Edg) (a : Nat) (d : List Int) (v : Nat) : (parE es a d v).length ≤ es.length := by unfold parE; rw [List.length_map]; exact List.length_filter_le _ _
theorem parL_ok {es : List Edg} {r n : Nat} (vg : VG es r n) (a : Nat) (d : List Int) : UpOk n (parL es a d n) := by
  refine ⟨parL_len _ _ _ _, fun v hv => ?_⟩
  have e : rowAt' (parL es a d n) v = parE es a d v := parL_get es a d hv
  rw [e]
  refine ⟨by have := parE_len es a d v; have := vg.e1024; omega, fun u hu => ?_⟩
  obtain ⟨x, hx, rfl⟩ := List.mem_map.1 hu
  obtain ⟨h1, h2⟩ := List.mem_filter.1 hx
  simp only [Bool.and_eq_true, decide_eq_true_eq] at h2
  have := vg.f x h1; have := vg.ne x h1
  exact ⟨by omega, by omega, fun e => by omega⟩
/-- a bound on distances -/
theorem IsD.le {es : List Edg} {r n a v : Nat} {d : Int} (vg : VG es r n) (ha : a < n) (h : IsD es a v d) {D : List Int} (hl : D.length = n) (hD : ∀ v, v < n → IsD es a v (gt0 D v)) (hk : ∀ v, v < n → gt0 D v ≤ 10000000) (hv : v < n) : d ≤ 10000000 := by
  rw [h.uniq (hD v hv)]; exact hk v hv
open Go Go.RT
theorem relax_ex {es : List Edg} {r n a x : Nat} {kx : Int} {dist : List Int} (vg : VG es r n) (hx : gt0 dist x = kx) (h0 : 0 ≤ kx) (hb : kx + 65535 ≤ 65535 * cntP dist) : ∀ (todo : List Edg) (h : Hq), (∀ e ∈ todo, e ∈ es ∧ e.f = (x : Int)) → DJ es n a dist h todo → ∃ h', DJ es n a dist h' []
  | [], h, _, o => ⟨h, o⟩
  | e :: todo, h, ht, o => by
    obtain ⟨he, hef⟩ := ht e (by simp)
    have hfx : gt0 dist e.f.toNat = kx := by rw [hef, Int.toNat_natCast]; exact hx
    by_cases hc : gt0 dist e.t.toNat < 0 ∧ (h.place e.t.toNat < 0 ∨ gt0 dist e.f.toNat + e.c < h.key e.t.toNat)
    · exact relax_ex vg hx h0 hb todo _ (fun e' h' => ht e' (by simp [h'])) (o.put vg he (by omega) (by omega) hc)
    · exact relax_ex vg hx h0 hb todo _ (fun e' h' => ht e' (by simp [h'])) (o.skip vg hc)
theorem run_ex {es : List Edg} {r n a : Nat} (vg : VG es r n) (ha : a < n) : ∀ (m : Nat) (dist : List Int) (h : Hq), n - cntP dist ≤ m → DJ es n a dist h [] → (∀ v, v < n → gt0 dist v ≤ 65535 * cntP dist) → ∃ D : List Int, D.length = n ∧ (∀ v, v < n → IsD es a v (gt0 D v)) ∧ ∀ v, v < n → gt0 D v ≤ 8388480
  | m, dist, h, hm, o, hb => by
    by_cases he : h.it = []
    · refine ⟨dist, o.dl, fun v hv => o.done vg ha he hv, fun v hv => ?_⟩
      have h1 := hb v hv
      have h2 := cntP_le dist
      have h3 := vg.n128
      rw [o.dl] at h2; omega
    · have hne : 0 < h.it.length := Nat.pos_of_ne_zero fun e => he (List.length_eq_zero_iff.1 e)
      obtain ⟨x1, x2, x3, x4, x5, x6⟩ := o.pop vg ha hne
      have hcl := cntP_le (dist.set (h.item 0) (h.key (h.item 0)))
      rw [List.length_set, o.dl] at hcl
      have hget : ∀ v, gt0 (dist.set (h.item 0) (h.key (h.item 0))) v = if h.item 0 = v then h.key (h.item 0) else gt0 dist v := fun v => getD_set _ _ _ _ _ (by rw [o.dl]; exact x1)
      obtain ⟨h', o'⟩ := relax_ex vg (by rw [hget, if_pos rfl]) x3 (by rw [x5]; omega) _ _ (fun e he => by simpa using he) x6
      match m with
      | 0 => omega
      | m + 1 =>
        refine run_ex vg ha m _ h' (by omega) o' fun v hv => ?_
        rw [hget, x5]
        have := hb v hv
        split <;> omega
theorem dist_ex {es : List Edg} {r n a : Nat} (vg : VG es r n) (ha : a < n) : ∃ D : List Int, D.length = n ∧ (∀ v, v < n → IsD es a v (gt0 D v)) ∧ ∀ v, v < n → gt0 D v ≤ 8388480 := by
  obtain ⟨o, h0⟩ := DJ.start vg ha
  refine run_ex vg ha n _ _ (by omega) o fun v hv => ?_
  rw [h0]
  have : gt0 (List.replicate n (-1)) v = -1 := getD_rep _ _ _ _ hv
  rw [this]; omega
theorem IsD.small {es : List Edg} {r n a v : Nat} {d : Int} (vg : VG es r n) (ha : a < n) (hv : v < n) (h : IsD es a v d) : -1 ≤ d ∧ d ≤ 8388480 := by
  obtain ⟨D, h1, h2, h3⟩ := dist_ex vg ha
  rw [h.uniq (h2 v hv)]
  exact ⟨(h2 v hv).ge vg, h3 v hv⟩
theorem srt_ex (d : List Int) : ∀ (l : List Nat), l.Nodup → ∃ l2 : List Nat, l2.Perm l ∧ l2.Pairwise (ltHd d)
  | [], _ => ⟨[], .nil, .nil⟩
  | x :: l, h => by
    obtain ⟨h1, h2⟩ := List.nodup_cons.1 h
    obtain ⟨l2, p, q⟩ := srt_ex d l h2
    have : ∀ (l2 : List Nat), x ∉ l2 → l2.Pairwise (ltHd d) → ∃ l3 : List Nat, l3.Perm (x :: l2) ∧ l3.Pairwise (ltHd d) := by
      intro l2
      induction l2 with
      | nil => exact fun _ _ => ⟨[x], .refl _, by simp⟩
      | cons y l2 ih =>
        intro hx hq
        obtain ⟨q1, q2⟩ := List.pairwise_cons.1 hq
        by_cases hxy : ltHd d x y
        · refine ⟨x :: y :: l2, .refl _, List.pairwise_cons.2 ⟨fun z hz => ?_, hq⟩⟩
          rcases List.mem_cons.1 hz with rfl | hz
          · exact hxy
          · have := q1 z hz; unfold ltHd at *; omega
        · obtain ⟨l3, p3, q3⟩ := ih (fun e => hx (by simp [e])) q2
          refine ⟨y :: l3, (p3.cons y).trans (List.Perm.swap x y l2), List.pairwise_cons.2 ⟨fun z hz => ?_, q3⟩⟩
          rcases List.mem_cons.1 (p3.mem_iff.1 hz) with rfl | hz
          · have hne : z ≠ y := fun e => hx (by simp [e])
            unfold ltHd at *; omega
          · exact q1 z hz
    obtain ⟨l3, p3, q3⟩ := this l2 (fun e => h1 (p.mem_iff.1 e)) q
    exact ⟨l3, p3.trans (p.cons x), q3⟩
theorem run_exists {g : Gr} {a : Nat} (h : checkI g = 0) (ha : (a : Int) < g.r) : ∃ t, RunOk g a t := by
  obtain ⟨vg, h0, h1⟩ := checkI_vg h
  obtain ⟨D, d1, d2, d3⟩ := dist_ex vg (a := a) (by omega)
  obtain ⟨l2, p, q⟩ := srt_ex D (ordA D a (g.r + g.n).toNat) (List.nodup_range.filter _)
  exact ⟨⟨a, D, hopsL g.r a (g.r + g.n).toNat (parL g.es a D (g.r + g.n).toNat) l2, parL g.es a D (g.r + g.n).toNat⟩, h, ha, rfl, d1, d2, rfl, l2, p, q, rfl⟩
end Go.Pl
/- Routes within an area: what the program's functions compute. No program in sight. -/
namespace Go.Pl
open Go Go.RT
set_option linter.all false
abbrev VHd (l : List Hdr) : FV := .vals 7 (l.map encH)
structure Nbr where
  rt : Int
  ad : Int
  pr : Int
  dr : Int
  bd : Int
  st : Int
  un : Int
  ms : Bool
  sq : Int
  ls : List Hdr
  sn : List Hdr
  mo : Bool
  rq : List Hdr
  uk : List Hdr
  re : Int
structure Ifs where
  kd : Int
  pf : Pfx
  ad : Int
  ar : Int
  co : Int
  pr : Int
  he : Int
  de : Int
  up : Bool
  dr : Int
  bd : Int
  el : Int
  nh : Int
  nb : List Nbr
def encNb (n : Nbr) : List FV := [If .u32 n.rt, If .u32 n.ad, If .i64 n.pr, If .u32 n.dr, If .u32 n.bd, If .i64 n.st, If .i64 n.un, Bf n.ms, If .i64 n.sq, VHd n.ls, VHd n.sn, Bf n.mo, VHd n.rq, VHd n.uk, If .i64 n.re]
abbrev VNb (l : List Nbr) : FV := .vals 15 (l.map encNb)
def encIf (s : Ifs) : List FV := [If .i64 s.kd, If .u32 s.pf.addr, If .i64 s.pf.len, If .u32 s.ad, If .u32 s.ar, If .i64 s.co, If .i64 s.pr, If .i64 s.he, If .i64 s.de, Bf s.up, If .u32 s.dr, If .u32 s.bd, If .i64 s.el, If .i64 s.nh, VNb s.nb]
abbrev VIf (l : List Ifs) : FV := .vals 15 (l.map encIf)
abbrev OIf (l : List Ifs) : Option Ob := some (.flat 15 (l.map encIf))
structure Vw where
  g : AGr
  t : Tr
  l : List Ifs
def encVw (v : Vw) : List FV := encR v.g ++ encTr v.t ++ [VIf v.l]
/-- intra.list -/
def lstF (l : List (List Int)) (i : Int) : List Int := if (decide (i < 0) || decide ((l.length : Int) ≤ i)) = true then [] else l.getD i.toNat []
def attF (t : Tr) (node : Int) : Bool := decide (t.root ∈ lstF t.par node)
def zeroV : NetV := ⟨0, 0, 0⟩
def liesF (g : AGr) (node : Int) (s : Ifs) : Bool :=
  if (decide (node - g.rs.length < 0) || decide ((g.ns.length : Int) ≤ node - g.rs.length)) = true then false else
  decide ((g.ns.getD (node - g.rs.length).toNat zeroV).id = s.ad) || s.nb.any fun n => decide (n.ad = (g.ns.getD (node - g.rs.length).toNat zeroV).id)
/-- the hops to a router by one neighbor -/
def acrN (g : AGr) (t : Tr) (s : Ifs) (node i : Int) (n : Nbr) : List IHop :=
  if n.rt ≠ g.rs.getD node.toNat 0 then [] else
  if (((decide (s.kd = 1) && decide (n.st = 6)) && attF t node) && decide (s.co = t.dist.getD node.toNat 0)) = true then [⟨i, n.ad, n.rt⟩] else
  if (decide (s.kd = 2) && decide (2 ≤ n.st)) = true then (lstF t.par node).flatMap fun w => if (attF t w && liesF g w s) = true then [⟨i, n.ad, n.rt⟩] else []
  else []
def acrF (g : AGr) (t : Tr) (s : Ifs) (node i : Int) : List IHop := s.nb.flatMap (acrN g t s node i)
def dir1 (g : AGr) (t : Tr) (s : Ifs) (node i : Int) : List IHop :=
  if ((!s.up || decide (node < 0)) || decide ((t.dist.length : Int) ≤ node)) = true then [] else
  if node < g.rs.length then acrF g t s node i else
  if ((decide (s.kd = 2) && attF t node) && liesF g node s) = true then [⟨i, 0, 0⟩] else []
def dirGo (g : AGr) (t : Tr) (node : Int) : Nat → List Ifs → List IHop
  | _, [] => []
  | i, s :: l => dir1 g t s node i ++ dirGo g t node (i + 1) l
def dirF (v : Vw) (node : Int) : List IHop := dirGo v.g v.t node 0 v.l
def hopF (v : Vw) (node : Int) : List IHop := mergeH ((lstF v.t.hops node).flatMap (dirF v)) []
def ownGoI (p : Pfx) : Nat → List Ifs → List IHop
  | _, [] => []
  | i, s :: l => (if (s.up && decide (s.pf = p)) = true then [⟨(i : Int), 0, 0⟩] else []) ++ ownGoI p (i + 1) l
def ownF (v : Vw) (p : Pfx) : List IHop := ownGoI p 0 v.l
theorem dir_step {g : AGr} {t : Tr} {node : Int} {l : List Ifs} {i : Nat} (h : i < l.length) : dirGo g t node i (l.drop i) = dir1 g t l[i] node i ++ dirGo g t node (i + 1) (l.drop (i + 1)) := by
  rw [List.drop_eq_getElem_cons h]; rfl
theorem ownI_step {p : Pfx} {l : List Ifs} {i : Nat} (h : i < l.length) : ownGoI p i (l.drop i) = (if (l[i].up && decide (l[i].pf = p)) = true then [⟨(i : Int), 0, 0⟩] else []) ++ ownGoI p (i + 1) (l.drop (i + 1)) := by
  rw [List.drop_eq_getElem_cons h]; rfl
/-- offers -/
structure Ofr where
  co : Int
  hs : List IHop
def encOf (o : Ofr) : List FV := [If .i64 o.co, VIh o.hs]
abbrev evOf (o : Ofr) : FV := .agg (encOf o)
def zOf : Ofr := ⟨0, []⟩
abbrev Best := List (Pfx × Ofr)
def addB (m : Best) (p : Pfx) (o : Ofr) : Best :=
  if 16777216 < o.co then m else
  if (!(mget m p).isSome || decide (o.co < ((mget m p).getD zOf).co)) = true then mput m p o else
  if o.co = ((mget m p).getD zOf).co then mput m p ⟨o.co, mergeH ((mget m p).getD zOf).hs o.hs⟩ else m
/-- prefix.Make -/
def makeP (id len : Int) : Pfx := ofP id.toNat len
def makeB (len : Int) : Bool := !(decide (len < 0) || decide (32 < len))
def net1 (v : Vw) (i : Nat) (n : NetV) (m : Best) : Best :=
  if (makeB n.ln && decide (0 ≤ v.t.dist.getD (v.g.rs.length + i) 0)) = true then addB m (makeP n.id n.ln) ⟨v.t.dist.getD (v.g.rs.length + i) 0, hopF v ((v.g.rs.length + i : Nat) : Int)⟩ else m
def netsGo (v : Vw) : Nat → List NetV → Best → Best
  | _, [], m => m
  | i, n :: l, m => netsGo v (i + 1) l (net1 v i n m)
def stubP (x : Lnk) : Pfx := ⟨x.id.toNat, x.d⟩
def stub1 (v : Vw) (router : Int) (node : Nat) (r : Int) (x : Lnk) (m : Best) : Best :=
  if r = router then addB m (stubP x) ⟨x.c, ownF v (stubP x)⟩ else
  if 0 ≤ v.t.dist.getD node 0 then addB m (stubP x) ⟨v.t.dist.getD node 0 + x.c, hopF v node⟩ else m
def stubGo (v : Vw) (router : Int) (node : Nat) (r : Int) : List Lnk → Best → Best
  | [], m => m
  | x :: l, m => stubGo v router node r l (stub1 v router node r x m)
def rtsGo (v : Vw) (router : Int) (db : List Lsa) : Nat → List Int → Best → Best
  | _, [], m => m
  | i, r :: l, m => rtsGo v router db (i + 1) l (stubGo v router i r (stubsA db r) m)
theorem nets_step {v : Vw} {l : List NetV} {i : Nat} {m : Best} (h : i < l.length) : netsGo v i (l.drop i) m = netsGo v (i + 1) (l.drop (i + 1)) (net1 v i l[i] m) := by
  rw [List.drop_eq_getElem_cons h]; rfl
theorem stubG_step {v : Vw} {ro r : Int} {node : Nat} {l : List Lnk} {i : Nat} {m : Best} (h : i < l.length) : stubGo v ro node r (l.drop i) m = stubGo v ro node r (l.drop (i + 1)) (stub1 v ro node r l[i] m) := by
  rw [List.drop_eq_getElem_cons h]; rfl
theorem rtsI_step {v : Vw} {ro : Int} {db : List Lsa} {l : List Int} {i : Nat} {m : Best} (h : i < l.length) : rtsGo v ro db i (l.drop i) m = rtsGo v ro db (i + 1) (l.drop (i + 1)) (stubGo v ro i l[i] (stubsA db l[i]) m) := by
  rw [List.drop_eq_getElem_cons h]; rfl
def bestF (v : Vw) (router : Int) (db : List Lsa) : Best := rtsGo v router db 0 v.g.rs (netsGo v 0 v.g.ns [])
structure LRt where
  pf : Pfx
  pr : Int
  ar : Int
  co : Int
  sc : Bool
  c2 : Int
  tg : Int
  hs : List IHop
def encLr (r : LRt) : List FV := [If .u32 r.pf.addr, If .i64 r.pf.len, If .i64 r.pr, If .u32 r.ar, If .i64 r.co, Bf r.sc, If .i64 r.c2, If .i64 r.tg, VIh r.hs]
abbrev VLr (l : List LRt) : FV := .vals 9 (l.map encLr)
abbrev OLr (l : List LRt) : Option Ob := some (.flat 9 (l.map encLr))
def rtOf (area : Int) (e : Pfx × Ofr) : List LRt := if 0 < e.2.hs.length then [⟨e.1, 3, area, e.2.co, false, 0, 0, e.2.hs⟩] else []
instance decLtPf (p q : Pfx) : Decidable (ltPf p q) := by unfold ltPf; infer_instance
/-- insertion by prefix -/
def insLr (r : LRt) : List LRt → List LRt
  | [] => [r]
  | x :: l => if ltPf r.pf x.pf then r :: x :: l else x :: insLr r l
def sortLr (l : List LRt) : List LRt := l.foldr insLr []
def routesV (v : Vw) (router area : Int) (db : List Lsa) : List LRt := sortLr ((bestF v router db).flatMap (rtOf area))
theorem insLr_mem {r x : LRt} : ∀ {l : List LRt}, x ∈ insLr r l ↔ x = r ∨ x ∈ l
  | [] => by simp [insLr]
  | y :: l => by
    simp only [insLr]
    split
    · simp
    · rw [List.mem_cons, insLr_mem (l := l), List.mem_cons]
      exact ⟨fun k => k.elim (fun k => .inr (.inl k)) (fun k => k.elim .inl (fun k => .inr (.inr k))), fun k => k.elim (fun k => .inr (.inl k)) (fun k => k.elim .inl (fun k => .inr (.inr k)))⟩
abbrev ascLr (l : List LRt) : Prop := l.Pairwise fun x y => ltPf x.pf y.pf
theorem insLr_asc {r : LRt} : ∀ {l : List LRt}, ascLr l → (∀ x ∈ l, x.pf ≠ r.pf) → ascLr (insLr r l)
  | [], _, _ => by simp [insLr]
  | y :: l, h, hn => by
    obtain ⟨h1, h2⟩ := List.pairwise_cons.1 h
    simp only [insLr]
    by_cases c : ltPf r.pf y.pf
    · rw [if_pos c]
      refine List.pairwise_cons.2 ⟨fun z hz => ?_, h⟩
      rcases List.mem_cons.1 hz with rfl | hz
      · exact c
      · exact c.trans (h1 z hz)
    · rw [if_neg c]
      refine List.pairwise_cons.2 ⟨fun z hz => ?_, insLr_asc h2 fun x hx => hn x (List.mem_cons_of_mem _ hx)⟩
      rcases insLr_mem.1 hz with rfl | hz
      · rcases pf_tri y.pf z.pf with k | k | k
        · exact k
        · exact absurd k (hn y (List.mem_cons_self ..))
        · exact absurd k c
      · exact h1 z hz
theorem sortLr_mem {x : LRt} : ∀ {l : List LRt}, x ∈ sortLr l ↔ x ∈ l
  | [] => by simp [sortLr]
  | y :: l => by
    have := sortLr_mem (x := x) (l := l)
    unfold sortLr at *
    rw [List.foldr_cons, insLr_mem, this, List.mem_cons]
abbrev apartL (l : List LRt) : Prop := l.Pairwise fun x y => x.pf ≠ y.pf
theorem sortLr_asc : ∀ {l : List LRt}, apartL l → ascLr (sortLr l)
  | [], _ => by simp [sortLr]
  | y :: l, h => by
    obtain ⟨h1, h2⟩ := List.pairwise_cons.1 h
    have := sortLr_asc h2
    unfold sortLr at *
    rw [List.foldr_cons]
    exact insLr_asc this fun x hx e => h1 x (sortLr_mem.1 hx) e.symm
theorem ascLr_uniq : ∀ {a b : List LRt}, ascLr a → ascLr b → (∀ x, x ∈ a ↔ x ∈ b) → a = b
  | [], [], _, _, _ => rfl
  | [], y :: b, _, _, h => by have := (h y).2 (List.mem_cons_self ..); simp at this
  | x :: a, [], _, _, h => by have := (h x).1 (List.mem_cons_self ..); simp at this
  | x :: a, y :: b, ha, hb, h => by
    obtain ⟨a1, a2⟩ := List.pairwise_cons.1 ha
    obtain ⟨b1, b2⟩ := List.pairwise_cons.1 hb
    have hxy : x = y := by
      rcases List.mem_cons.1 ((h x).1 (List.mem_cons_self ..)) with e | e
      · exact e
      · rcases List.mem_cons.1 ((h y).2 (List.mem_cons_self ..)) with e2 | e2
        · exact e2.symm
        · exact absurd ((b1 x e).trans (a1 y e2)) fun k => k.irr
    subst hxy
    rw [ascLr_uniq a2 b2 fun z => ?_]
    constructor
    · intro hz
      rcases List.mem_cons.1 ((h z).1 (List.mem_cons_of_mem _ hz)) with e | e
      · subst e; exact absurd (a1 z hz) fun k => k.irr
      · exact e
    · intro hz
      rcases List.mem_cons.1 ((h z).2 (List.mem_cons_of_mem _ hz)) with e | e
      · subst e; exact absurd (b1 z hz) fun k => k.irr
      · exact e
theorem sortLr_uniq {l l0 l' : List LRt} (hn : apartL l) (h0 : l0.Perm l) (hp : l'.Perm l0) (hs : ∀ (i j : Nat) (x y : LRt), i < j → l'[i]? = some x → l'[j]? = some y → ¬ cmpP y.pf x.pf < 0) : l' = sortLr l := by
  have hpp := hp.trans h0
  have hn' : apartL l' := hpp.symm.pairwise hn fun h => Ne.symm h
  have hs' : ascLr l' := by
    unfold ascLr apartL at *
    rw [List.pairwise_iff_getElem] at hn' ⊢
    intro i j hi hj hij
    have h1 := hn' i j hi hj hij
    have h2 := hs i j _ _ hij (List.getElem?_eq_getElem hi) (List.getElem?_eq_getElem hj)
    rw [cmpP_neg] at h2
    rcases pf_tri l'[i].pf l'[j].pf with k | k | k
    · exact k
    · exact absurd k h1
    · exact absurd k h2
  exact ascLr_uniq hs' (sortLr_asc hn) fun x => by rw [sortLr_mem]; exact hpp.mem_iff
open Go Go.RT
structure VwOk (v : Vw) : Prop where
  rl : v.g.rs.length ≤ 1000
  nl : v.g.ns.length ≤ 1000
  dl : v.t.dist.length = v.g.rs.length + v.g.ns.length
  pl : v.t.par.length ≤ 2000
  pr : ∀ r ∈ v.t.par, r.length ≤ 2000 ∧ ∀ u ∈ r, 0 ≤ u ∧ u ≤ 4000
  hl : v.t.hops.length ≤ 2000
  hr : ∀ r ∈ v.t.hops, r.length ≤ 60 ∧ ∀ u ∈ r, 0 ≤ u ∧ u ≤ 4000
  ll : v.l.length ≤ 40
  lb : ∀ s ∈ v.l, s.nb.length ≤ 1048576
theorem lst_mem {ll : List (List Int)} {P : List Int → Prop} (h0 : P []) (h : ∀ r ∈ ll, P r) (i : Int) : P (lstF ll i) := by
  unfold lstF
  split
  · exact h0
  · rename_i hi
    simp only [Bool.or_eq_true, decide_eq_true_eq, not_or, Int.not_lt, Int.not_le] at hi
    have hlt : i.toNat < ll.length := by omega
    rw [List.getD_eq_getElem?_getD, List.getElem?_eq_getElem hlt]
    exact h _ (List.getElem_mem hlt)
theorem VwOk.par {v : Vw} (h : VwOk v) (i : Int) : (lstF v.t.par i).length ≤ 2000 ∧ ∀ u ∈ lstF v.t.par i, 0 ≤ u ∧ u ≤ 4000 :=
  lst_mem (P := fun r => r.length ≤ 2000 ∧ ∀ u ∈ r, 0 ≤ u ∧ u ≤ 4000) (by simp) h.pr i
theorem VwOk.hop {v : Vw} (h : VwOk v) (i : Int) : (lstF v.t.hops i).length ≤ 60 ∧ ∀ u ∈ lstF v.t.hops i, 0 ≤ u ∧ u ≤ 4000 :=
  lst_mem (P := fun r => r.length ≤ 60 ∧ ∀ u ∈ r, 0 ≤ u ∧ u ≤ 4000) (by simp) h.hr i
/-- the hops over one parent -/
def acrW (g : AGr) (t : Tr) (s : Ifs) (h : IHop) (w : Int) : List IHop := if (attF t w && liesF g w s) = true then [h] else []
theorem fm_le {α β : Type} (f : α → List β) (b : Nat) : ∀ (l : List α), (∀ x ∈ l, (f x).length ≤ b) → (l.flatMap f).length ≤ l.length * b
  | [], _ => by simp
  | x :: l, h => by
    have h1 := fm_le f b l fun y hy => h y (List.mem_cons_of_mem _ hy)
    have h2 := h x (List.mem_cons_self ..)
    simp only [List.flatMap_cons, List.length_append, List.length_cons, Nat.add_mul]; omega
theorem fm_take {α β : Type} (f : α → List β) {l : List α} {i : Nat} (h : i < l.length) : (l.take (i + 1)).flatMap f = (l.take i).flatMap f ++ f l[i] := by
  rw [List.take_succ_eq_append_getElem h, List.flatMap_append]; simp
theorem acrW_len (g : AGr) (t : Tr) (s : Ifs) (h : IHop) (w : Int) : (acrW g t s h w).length ≤ 1 := by unfold acrW; split <;> simp
theorem acrN_len {v : Vw} (hv : VwOk v) (s : Ifs) (node i : Int) (n : Nbr) : (acrN v.g v.t s node i n).length ≤ 2000 := by
  unfold acrN
  split
  · simp
  · split
    · simp
    · split
      · have h1 := fm_le (acrW v.g v.t s ⟨i, n.ad, n.rt⟩) 1 (lstF v.t.par node) fun w _ => acrW_len ..
        have h2 := (hv.par node).1
        show ((lstF v.t.par node).flatMap (acrW v.g v.t s ⟨i, n.ad, n.rt⟩)).length ≤ 2000
        omega
      · simp
theorem acrF_len {v : Vw} (hv : VwOk v) {s : Ifs} (hs : s.nb.length ≤ 1048576) (node i : Int) : (acrF v.g v.t s node i).length ≤ 2097152000 := by
  have h1 := fm_le (acrN v.g v.t s node i) 2000 s.nb fun n _ => acrN_len hv s node i n
  unfold acrF; omega
theorem dir1_len {v : Vw} (hv : VwOk v) {s : Ifs} (hs : s.nb.length ≤ 1048576) (node i : Int) : (dir1 v.g v.t s node i).length ≤ 2097152000 := by
  have h1 := acrF_len hv hs node i
  unfold dir1
  split
  · simp
  · split
    · exact h1
    · split <;> simp
theorem dirGo_len {v : Vw} (hv : VwOk v) (node : Int) : ∀ (l : List Ifs) (i : Nat), (∀ s ∈ l, s.nb.length ≤ 1048576) → (dirGo v.g v.t node i l).length ≤ l.length * 2097152000
  | [], _, _ => by simp [dirGo]
  | s :: l, i, h => by
    have h1 := dirGo_len hv node l (i + 1) fun y hy => h y (List.mem_cons_of_mem _ hy)
    have h2 := dir1_len hv (h s (List.mem_cons_self ..)) node i
    simp only [dirGo, List.length_append, List.length_cons, Nat.add_mul]; omega
theorem dirF_len {v : Vw} (hv : VwOk v) (node : Int) : (dirF v node).length ≤ 83886080000 := by
  have h1 := dirGo_len hv node v.l 0 hv.lb
  have h2 := hv.ll
  have : v.l.length * 2097152000 ≤ 40 * 2097152000 := Nat.mul_le_mul_right _ h2
  unfold dirF; omega
theorem ownG_len (p : Pfx) : ∀ (l : List Ifs) (i : Nat), (ownGoI p i l).length ≤ l.length
  | [], _ => by simp [ownGoI]
  | s :: l, i => by
    have := ownG_len p l (i + 1)
    simp only [ownGoI, List.length_append, List.length_cons]
    split <;> simp <;> omega
open Go Go.RT
theorem anyI_iff {α : Type} (p : α → Bool) : ∀ (l : List α) (k : Nat), 0 ≤ idxAt p k l ↔ l.any p = true
  | [], k => by simp [idxAt]
  | x :: l, k => by
    have ih := anyI_iff p l (k + 1)
    show 0 ≤ (bif p x then (k : Int) else idxAt p (k + 1) l) ↔ (p x || l.any p) = true
    generalize p x = b
    cases b
    · simpa using ih
    · simp
theorem anyI_go {α : Type} (p : α → Bool) (l : List α) (k : Nat) : decide (0 ≤ idxAt p k l) = l.any p := by
  rw [Bool.eq_iff_iff, decide_eq_true_iff]; exact anyI_iff p l k
end Go.Pl
namespace Go.Pl
theorem fm_take_le {α β : Type} (f : α → List β) (b n : Nat) {l : List α} (i : Nat) (hl : l.length ≤ n) (h : ∀ x, (f x).length ≤ b) : ((l.take i).flatMap f).length ≤ n * b := by
  have h1 := fm_le f b (l.take i) fun x _ => h x
  have h2 : (l.take i).length ≤ n := by simp; omega
  exact Nat.le_trans h1 (Nat.mul_le_mul_right b h2)
theorem hopT_len {v : Vw} (hv : VwOk v) {hs : List Int} (h : hs.length ≤ 60) (i : Nat) : ((hs.take i).flatMap (dirF v)).length ≤ 5033164800000 :=
  fm_take_le (dirF v) 83886080000 60 i h fun n => dirF_len hv n
end Go.Pl
