/- A part of the proof: RT12, RT13, RT14, RT15, RT16, RT17, Tab1, PL, S0, S1, S2, S3, T2, T3, T4, T5, T6. -/
import Derived.Test.YtdebjffddkgfbaaZA
import Derived.Laws.StructEq
import Derived.ProofKit
import Derived.OpenShut
import Derived.WideKeyArgs
import Derived.ChangeSame
import Derived.ReadAgain
import Derived.Carry
import Derived.Test.YtdebjffddkgfbaaChecked
import Derived.Eval
set_option linter.all false
/- The engine, part 12: calls. -/
namespace Go.RT
set_option linter.all false

class FnB (P : Program) (f : FuncId) : Prop where
  h : ∃ fn, P.funcs[f]? = some fn ∧ (fn.name == "runtime.NumGoroutine") = false ∧ fn.body.isSome = true

section
variable {P : Program} {o : Oper} {g : Bool} {G : Env} {H : Hp} {nx : Nat}

theorem run_call {f : FuncId} [hb : FnB P f] {cf : Operand} {xs : List Operand} {ts : Array TypeId} {a : Act} {w : World} {fs cs : Array Value} (ho : o.op = .call { callee := .value cf, args := xs.toArray, argTypes := ts }) (hf : a.eval cf = .func (.func f) fs cs) :
    (execOp a.eval o).run P w = .ok (.enter f (fs ++ (xs.map a.eval).toArray ++ cs)) w := by
  obtain ⟨fn, h1, h2, h3⟩ := hb.h
  have h4 : ¬ (fn.body = none) := by intro e; rw [e] at h3; cases h3
  have h5 : ¬ (fn.name = "runtime.NumGoroutine") := by simpa using h2
  simp [execOp, ho, resolve, hf, Deferred.ofValue, invoke, callFunc, h1, h4, h5]

theorem wp_enter {f : FuncId} {args : Array Value} {a : Act} {w : World} {K : Act → World → Prop} {Q : Exit → Act → World → Prop} {R : Ending → World → Prop} (h : (execOp a.eval o).run P w = .ok (.enter f args) w) (hc : Calls P f args w R)
    (hk : ∀ e w', R e w' → ∃ v, e = .returned v ∧ K (a.put o.dst v) w') : o.wp P a w K Q := by
  unfold Oper.wp; rw [h]
  exact hc.mono fun e w' hr => by obtain ⟨v, rfl, hk⟩ := hk e w' hr; exact hk

def renE (L : List Nat) (x : Nat × Option Ob) : Nat × Option Ob := (renI L x.1, x.2.map (renO L))
def callH (L' : List Nat) (Hout : Hp) (L : List Nat) (H : Hp) : Hp := Hout.map (renE L') ++ (L.map fun i => (i, none)) ++ H

theorem hlook_append (A B : Hp) (i : Nat) : hlook (A ++ B) i = if i ∈ A.map (·.1) then hlook A i else hlook B i := by
  induction A with
  | nil => simp
  | cons x A ih =>
    obtain ⟨k, v⟩ := x
    rw [List.cons_append, hlook_cons, hlook_cons, ih]
    by_cases h : k = i
    · subst h; simp
    · simp only [if_neg h, List.map_cons, List.mem_cons, Ne.symm h, false_or]
theorem hlook_mem {A : Hp} {i : Nat} {o : Ob} (h : hlook A i = some o) : i ∈ A.map (·.1) := by
  induction A with
  | nil => cases h
  | cons x A ih =>
    obtain ⟨k, v⟩ := x
    rw [hlook_cons] at h
    by_cases hk : k = i
    · subst hk; simp
    · rw [if_neg hk] at h; simp; exact .inr (by simpa using ih h)
theorem hlook_kill (L : List Nat) (i : Nat) : hlook (L.map fun i => (i, (none : Option Ob))) i = none := by
  induction L with
  | nil => rfl
  | cons a L ih => rw [List.map_cons, hlook_cons, ih]; split <;> rfl
theorem hlook_ren {L : List Nat} {n : Nat} (hn : L.length = n) (hnd : L.Nodup) : ∀ {A : Hp}, (∀ x ∈ A, x.1 < n) → ∀ i, i < n → hlook (A.map (renE L)) (renI L i) = (hlook A i).map (renO L)
  | [], _, i, _ => rfl
  | (k, v) :: A, hA, i, hi => by
    have hk : k < n := hA (k, v) (by simp)
    rw [List.map_cons, renE, hlook_cons, hlook_cons]
    by_cases h : k = i
    · subst h; simp
    · rw [if_neg h, if_neg (fun e => h (renI_inj hnd (by omega) (by omega) e)), hlook_ren hn hnd (fun x hx => hA x (by simp [hx])) i hi]

/-- what is lent: the callee's numbers, by L, are the caller's -/
structure Lent (L : List Nat) (n : Nat) (H Hin : Hp) : Prop where
  len : L.length = n
  nodup : nodupB L = true
  all : ∀ i, i < n → ∃ o, hlook Hin i = some o
  get : ∀ i o, hlook Hin i = some o → i < n ∧ hlook H (renI L i) = some (renO L o) ∧ ltO n o

theorem Lent.nil (H : Hp) : Lent [] 0 H [] := ⟨rfl, rfl, fun i h => by omega, fun i o h => by cases h⟩

theorem call_core {C : Cx} {S : Nat → Prop} {m : Ids} {w : World} (hm : Mem C H nx S m w) {f : FuncId} {args : List PV} {n n' : Nat} {Hin Hout : Hp} {res : PV} {L : List Nat} (hM : Meets P f args n Hin res Hout n') (hL : Lent L n H Hin) (hnn : n ≤ n') (hHo : ∀ x ∈ Hout, x.1 < n')
    {vs : List Value} (hv : vs.length = args.length) (hr : ∀ (i : Nat) (v : Value) (p : PV), vs[i]? = some v → args[i]? = some p → Rep w S m v (renP L p) ∧ ltP n p = true) :
    Calls P f vs.toArray w fun e w' => ∃ v S' m', e = .returned v ∧ Mem C (callH (L ++ List.range' nx (n' - n)) Hout L H) (nx + (n' - n)) S' m' w' ∧ Le S m w S' m' w' ∧ Rep w' S' m' v (renP (L ++ List.range' nx (n' - n)) res) := by
  have hnd := nodupB_spec hL.nodup
  have hlen := hL.len
  -- a lent number is known, and lies below nx
  have hknown : ∀ i, i < n → ∃ o x, hlook Hin i = some o ∧ hlook H (renI L i) = some (renO L o) ∧ m (renI L i) = some x ∧ renI L i < nx := fun i hi => by
    obtain ⟨o, ho⟩ := hL.all i hi
    obtain ⟨_, h1, _⟩ := hL.get i o ho
    obtain ⟨x, hx⟩ := (hm.objs _ _ h1).known
    exact ⟨o, x, ho, h1, hx, hm.lt hx⟩
  let own2 : Nat → Prop := fun b => ∃ i o, hlook Hin i = some o ∧ m (renI L i) = some (some b)
  have hown2 : ∀ b, own2 b → ¬ S b ∧ b < w.heap.size ∧ (C.w0.heap.size ≤ b ∨ C.own0 b) := fun b ⟨i, o, h1, h2⟩ => by
    obtain ⟨_, h3, _⟩ := hL.get i o h1
    exact hm.blk _ _ b h3 h2
  let C2 : Cx := ⟨w, own2, S, renM L m, n⟩
  have hm2 : Mem C2 Hin n C2.S0 C2.m0 C2.w0 := by
    refine ⟨⟨rfl, Nat.le_refl _⟩, rfl, rfl, fun _ _ => rfl, Nat.le_refl _, fun _ _ _ => rfl, Le.refl _ _ _, fun b h => .inl h, fun i x hx => ?_, fun i o h => ?_, fun i o b h hb => ?_, fun i j o1 o2 b h1 h2 h3 h4 => ?_, hm.stab, fun i hi => ?_⟩
    · simp only [C2, renM] at hx ⊢
      split at hx
      · omega
      · cases hx
    · obtain ⟨h1, h2, h3⟩ := hL.get i o h
      exact (hm.objs _ _ h2).unren (by omega) (by rw [hlen]; exact h3)
    · obtain ⟨h1, h2, h3⟩ := hL.get i o h
      simp only [C2, renM, hlen, h1, if_true] at hb
      obtain ⟨k1, k2, _⟩ := hm.blk _ _ b h2 hb
      exact ⟨k1, k2, .inr ⟨i, o, h, hb⟩⟩
    · obtain ⟨a1, a2, _⟩ := hL.get i o1 h1
      obtain ⟨b1, b2, _⟩ := hL.get j o2 h2
      simp only [C2, renM, hlen, a1, b1, if_true] at h3 h4
      exact renI_inj hnd (by omega) (by omega) (hm.inj _ _ _ _ b a2 b2 h3 h4)
    · simp only [C2, renM, hlen]; rw [if_neg (by omega)]
  refine (hM.run C2 vs rfl hm2 hv fun i v p h1 h2 => ?_).mono fun e w' ⟨v, S', m', he, hm', hv'⟩ => ?_
  · obtain ⟨k1, k2⟩ := hr i v p h1 h2
    exact k1.unren p rfl (by rw [hlen]; exact k2)
  · -- the caller's names behind the call
    let k := n' - n
    let m'' : Ids := fun i => if i < nx then m i else if i < nx + k then m' (n + (i - nx)) else none
    let L' := L ++ List.range' nx k
    have hL'len : L'.length = n' := by simp [L', hlen, k]; omega
    have hL'lo : ∀ i, i < n → renI L' i = renI L i := fun i hi => by simp [L', renI, List.getElem?_append_left (show i < L.length by omega)]
    have hL'hi : ∀ i, n ≤ i → i < n' → renI L' i = nx + (i - n) := fun i h1 h2 => by
      simp only [L', renI, List.getD_eq_getElem?_getD]
      rw [List.getElem?_append_right (by omega), hlen, List.getElem?_range' (by omega)]; simp
    have hL'nd : L'.Nodup := by
      refine List.nodup_append.2 ⟨hnd, List.nodup_range', fun a ha b hb => ?_⟩
      obtain ⟨i, hi, he⟩ := List.getElem_of_mem ha
      obtain ⟨_, _, _, _, _, hlt⟩ := hknown i (by omega)
      have : renI L i = a := by simp [renI, hi, he]
      rw [this] at hlt
      have := (List.mem_range'_1.1 hb).1
      omega
    have hfwd : ∀ i x, m' i = some x → i < n' ∧ m'' (renI L' i) = some x := fun i x hx => by
      have hi := hm'.lt hx
      refine ⟨hi, ?_⟩
      by_cases hin : i < n
      · obtain ⟨o, y, _, _, hy, hlt⟩ := hknown i hin
        have : m' i = some y := hm'.le.ids i y (by simp only [C2, renM, hlen, hin, if_true]; exact hy)
        rw [hx] at this; cases this
        rw [hL'lo i hin]
        simp only [m'', hlt, if_true]; exact hy
      · rw [hL'hi i (by omega) hi]
        simp only [m'']
        rw [if_neg (by omega), if_pos (by omega), show n + (nx + (i - n) - nx) = i by omega]; exact hx
    have hle : Le S m w S' m'' w' := ⟨hm'.le.st, hm'.le.same, fun i x hx => by simp only [m'']; rw [if_pos (hm.lt hx)]; exact hx, hm'.le.room⟩
    have hsub : ∀ b, S' b → S b ∨ own2 b ∨ w.heap.size ≤ b := hm'.sub
    have hsame : ∀ b, b < w.heap.size → ¬ own2 b → w'.heap[b]? = w.heap[b]? := hm'.frame
    -- an object behind the call: the callee's, or one that was not lent
    have hcase : ∀ id o, hlook (callH L' Hout L H) id = some o → (∃ i o', i < n' ∧ id = renI L' i ∧ hlook Hout i = some o' ∧ o = renO L' o') ∨ (hlook H id = some o ∧ id ∉ L) := fun id o h => by
      rw [callH, List.append_assoc, hlook_append] at h
      split at h
      · rename_i hmem
        obtain ⟨x, hx, rfl⟩ := List.mem_map.1 hmem
        obtain ⟨y, hy, rfl⟩ := List.mem_map.1 hx
        have hlt := hHo y hy
        have hren := hlook_ren (L := L') hL'len hL'nd hHo y.1 hlt
        simp only [renE] at h
        rw [hren] at h
        obtain ⟨o', ho', rfl⟩ := Option.map_eq_some_iff.1 h
        exact .inl ⟨y.1, o', hlt, rfl, ho', rfl⟩
      · rw [hlook_append] at h
        split at h
        · rw [hlook_kill] at h; cases h
        · rename_i hmem
          exact .inr ⟨h, by simpa using hmem⟩
    have hold : ∀ id o b, hlook H id = some o → id ∉ L → m id = some (some b) → ¬ own2 b := fun id o b h1 h2 h3 ⟨i, o', h4, h5⟩ => by
      obtain ⟨h6, h7, _⟩ := hL.get i o' h4
      have := hm.inj _ _ _ _ b h1 h7 h3 h5
      exact h2 (by rw [this]; simp [renI, hlen, h6])
    have hmlt : ∀ id x, id < nx → m'' id = some x → m id = some x := fun id x h1 h2 => by simp only [m'', h1, if_true] at h2; exact h2
    have hHlt : ∀ id o, hlook H id = some o → id < nx := fun id o h => by obtain ⟨x, hx⟩ := (hm.objs id o h).known; exact hm.lt hx
    have hblk : ∀ i o' b, hlook Hout i = some o' → m'' (renI L' i) = some (some b) → m' i = some (some b) := fun i o' b h1 h2 => by
      obtain ⟨x, hx⟩ := (hm'.objs i o' h1).known
      rw [(hfwd i x hx).2] at h2; cases h2; exact hx
    refine ⟨v, S', m'', he, hm.step hle hm'.os hm'.tape hm'.output hm'.fz hm'.size (fun b hb hno => hsame b (Nat.lt_of_lt_of_le hb hm.size) fun ho => ?_) (fun b hb => ?_) (fun id o h => ?_) (fun id o b h hb => ?_) (fun i1 i2 o1 o2 b h1 h2 h3 h4 => ?_) hm'.stab (fun i hi => ?_), hle, hv'.fwd fun i x hx => (hfwd i x hx).2⟩
    · rcases (hown2 b ho).2.2 with h | h
      · omega
      · exact hno h
    · rcases hsub b hb with h | h | h
      · exact .inl h
      · rcases (hown2 b h).2.2 with h | h
        · exact .inr (.inr h)
        · exact .inr (.inl h)
      · exact .inr (.inr (Nat.le_trans hm.size h))
    · rcases hcase id o h with ⟨i, o', _, rfl, h1, rfl⟩ | ⟨h1, h2⟩
      · exact (hm'.objs i o' h1).fwd fun i x hx => (hfwd i x hx).2
      · exact (hm.objs id o h1).mono hle fun b hb => hsame b (hm.blk id o b h1 hb).2.1 (hold id o b h1 h2 hb)
    · rcases hcase id o h with ⟨i, o', _, rfl, h1, rfl⟩ | ⟨h1, h2⟩
      · obtain ⟨k1, k2, k3⟩ := hm'.blk i o' b h1 (hblk i o' b h1 hb)
        refine ⟨k1, k2, ?_⟩
        rcases k3 with h | h
        · exact .inl (Nat.le_trans hm.size h)
        · exact (hown2 b h).2.2
      · have hb' := hmlt id _ (hHlt id o h1) hb
        obtain ⟨k1, k2, k3⟩ := hm.blk id o b h1 hb'
        refine ⟨fun hs => ?_, Nat.lt_of_lt_of_le k2 hm'.size, k3⟩
        rcases hsub b hs with h | h | h
        · exact k1 h
        · exact hold id o b h1 h2 hb' h
        · omega
    · have hmix : ∀ i o' id o, hlook Hout i = some o' → hlook H id = some o → id ∉ L → m'' (renI L' i) = some (some b) → m'' id = some (some b) → False := fun i o' id o q1 q2 q3 q4 q5 => by
        have hb' := hmlt id _ (hHlt id o q2) q5
        obtain ⟨_, k2, _⟩ := hm.blk id o b q2 hb'
        obtain ⟨_, _, k3⟩ := hm'.blk i o' b q1 (hblk i o' b q1 q4)
        rcases k3 with h | h
        · exact absurd k2 (Nat.not_lt.2 h)
        · exact hold id o b q2 q3 hb' h
      rcases hcase i1 o1 h1 with ⟨i, o', _, rfl, a1, rfl⟩ | ⟨a1, a2⟩ <;> rcases hcase i2 o2 h2 with ⟨j, o'', _, rfl, b1, rfl⟩ | ⟨b1, b2⟩
      · exact congrArg _ (hm'.inj i j _ _ b a1 b1 (hblk i _ b a1 h3) (hblk j _ b b1 h4))
      · exact (hmix _ _ _ _ a1 b1 b2 h3 h4).elim
      · exact (hmix _ _ _ _ b1 a1 a2 h4 h3).elim
      · exact hm.inj i1 i2 _ _ b a1 b1 (hmlt i1 _ (hHlt i1 _ a1) h3) (hmlt i2 _ (hHlt i2 _ b1) h4)
    · simp only [m'']
      rw [if_neg (by omega), if_neg (by omega)]

/-- what the call is handed: firsts, arguments, captured -/
theorem call_args {f : FuncId} {cf : Operand} {xs : List Operand} {ts : Array TypeId} {a : Act} {w : World} {S : Nat → Prop} {m : Ids} {fs cs ps : List PV} (hg : g = true) (ha : ∀ t q, t ∈ opTmps o → look G t = some q → RepAt w S m a t q)
    (ho : o.op = .call { callee := .value cf, args := xs.toArray, argTypes := ts }) (hf : Opd G g cf (.clo f fs cs)) (hx : Opds G g xs ps) :
    ∃ vf vc : List Value, a.eval cf = .func (.func f) vf.toArray vc.toArray ∧ (vf ++ xs.map a.eval ++ vc).length = (fs ++ ps ++ cs).length ∧ ∀ (i : Nat) (v : Value) (p : PV), (vf ++ xs.map a.eval ++ vc)[i]? = some v → (fs ++ ps ++ cs)[i]? = some p → Rep w S m v p := by
  have h1 := hf.rep hg (by simp [ho, Op.operands, Call.operands]) ha
  have h2 := hx.rep hg ha (fun x hx => by simp [ho, Op.operands, Call.operands, hx])
  have hl := hx.length
  generalize hv : a.eval cf = v at h1
  cases h1 with
  | clo _ as0 bs _ _ q1 q2 q3 q4 =>
    have q1' : as0.toList.length = fs.length := by simpa using q1
    refine ⟨as0.toList, bs.toList, by simp, by simp [q1, q2, hl], fun i v p hi hp => ?_⟩
    rw [List.append_assoc, List.getElem?_append] at hi hp
    rw [q1'] at hi
    split at hi
    · rename_i hlt
      rw [if_pos hlt] at hp
      exact q3 i v p (by simpa using hi) hp
    · rename_i hlt
      rw [if_neg hlt] at hp
      rw [List.getElem?_append] at hi hp
      rw [List.length_map, hl] at hi
      split at hi
      · rename_i hlt2
        rw [if_pos hlt2] at hp
        exact h2 _ v p hi hp
      · rename_i hlt2
        rw [if_neg hlt2] at hp
        exact q4 _ v p (by simpa using hi) hp

/-- A CALL. -/
theorem op_call {f : FuncId} {cf : Operand} {xs : List Operand} {ts : Array TypeId} {fs cs ps args : List PV} {n n' : Nat} {Hin Hout H' : Hp} {res res' : PV} {nx' : Nat} (L : List Nat) (hM : g = true → Meets P f args n Hin res Hout n') [hb : FnB P f] (ho : o.op = .call { callee := .value cf, args := xs.toArray, argTypes := ts })
    (hf : Opd G g cf (.clo f fs cs)) (hx : Opds G g xs ps) (hargs : fs ++ ps ++ cs = args.map (renP L)) (hlt : args.all (ltP n) = true) (hL : Lent L n H Hin) (hnn : Nat.ble n n' = true) (hHo : Hout.all (fun x => Nat.blt x.1 n') = true)
    (hres : renP (L ++ List.range' nx (n' - n)) res = res') (hH : callH (L ++ List.range' nx (n' - n)) Hout L H = H') (hnx : nx + (n' - n) = nx') : OpS P o g G H nx res' H' nx' :=
  ⟨fun C S m a w hm hg ha K Q hK => by
    subst hres; subst hH; subst hnx
    obtain ⟨vf, vc, e1, e2, e3⟩ := call_args hg ha ho hf hx
    have hrun := run_call (P := P) (f := f) (w := w) ho e1
    have hc := call_core (P := P) hm (hM hg) hL (Nat.le_of_ble_eq_true hnn) (fun x hx => blt_of (List.all_eq_true.1 hHo x hx)) (vs := vf ++ xs.map a.eval ++ vc) (by rw [e2, hargs]; simp) (fun i v p h1 h2 =>
      ⟨e3 i v (renP L p) h1 (by rw [hargs]; simp [h2]), List.all_eq_true.1 hlt p (List.mem_of_getElem? h2)⟩)
    refine wp_enter (by simpa using hrun) hc fun e w' ⟨v, S', m', he, k1, k2, k3⟩ => ⟨v, he, hK v w' S' m' k1 k2 k3⟩⟩

/-- a call on frozen data that hands back frozen data -/
theorem op_call_pure {f : FuncId} {cf : Operand} {xs : List Operand} {ts : Array TypeId} {args : List FV} {res : FV} (hM : g = true → Pure P f args res) [hb : FnB P f] (ho : o.op = .call { callee := .value cf, args := xs.toArray, argTypes := ts })
    (hf : Opd G g cf (.clo f [] [])) (hx : Opds G g xs (args.map PV.fz)) : OpP P o g G (.fz res) := fun H nx =>
  op_call (L := []) (n := 0) (n' := 0) (Hin := []) (Hout := []) hM ho hf hx (by simp [renP]) (by simp [ltP]) (Lent.nil H) rfl rfl rfl rfl rfl
/-- a call on frozen data that hands back a fresh slice -/
theorem op_call_fresh {f : FuncId} {cf : Operand} {xs : List Operand} {ts : Array TypeId} {args : List FV} {sz len : Nat} {rows : List (List FV)} (hM : g = true → Meets P f (args.map PV.fz) 0 [] (.sl 0 sz 0 len) [(0, some (.flat sz rows))] 1) [hb : FnB P f] (ho : o.op = .call { callee := .value cf, args := xs.toArray, argTypes := ts })
    (hf : Opd G g cf (.clo f [] [])) (hx : Opds G g xs (args.map PV.fz)) : OpS P o g G H nx (.sl nx sz 0 len) ((nx, some (.flat sz rows)) :: H) (nx + 1) :=
  op_call (L := []) hM ho hf hx (by simp [renP]) (by simp [ltP]) (Lent.nil H) rfl rfl rfl rfl rfl

mutual
def memless : FV → Bool
  | .lit _ => true
  | .agg fs => memlesss fs
  | .tup fs => memlesss fs
  | _ => false
def memlesss : List FV → Bool
  | [] => true
  | f :: r => memless f && memlesss r
end
theorem memlesss_mem : ∀ {fs : List FV}, memlesss fs = true → ∀ f ∈ fs, memless f = true
  | [], _, f, h => by simp at h
  | q :: r, hb, f, h => by
    simp only [memlesss, Bool.and_eq_true] at hb
    rcases List.mem_cons.1 h with rfl | h
    · exact hb.1
    · exact memlesss_mem hb.2 f h
theorem FRep.memless {w w' : World} {S S' : Nat → Prop} {v : Value} {f : FV} (h : FRep w S v f) : RT.memless f = true → FRep w' S' v f := by
  induction h with
  | lit v => exact fun _ => .lit v
  | agg cs fs hl _ h1 ih => exact fun hm => .agg cs fs hl (fun i c f hc hf => ih i c f hc hf (memlesss_mem (by simpa [RT.memless] using hm) f (List.mem_of_getElem? hf))) h1
  | tup cs fs hl _ ih => exact fun hm => .tup cs fs hl (fun i c f hc hf => ih i c f hc hf (memlesss_mem (by simpa [RT.memless] using hm) f (List.mem_of_getElem? hf)))
  | nil => exact fun hm => by simp [RT.memless] at hm
  | vals => exact fun hm => by simp [RT.memless] at hm
  | cellp => exact fun hm => by simp [RT.memless] at hm

/-- operands read as0 frozen for the time of a call -/
inductive AsFs (H : Hp) (F : List Nat) : List PV → List FV → Prop where
  | nil : AsFs H F [] []
  | cons (p : PV) (f : FV) (ps : List PV) (fs : List FV) : AsF H F p f → AsFs H F ps fs → AsFs H F (p :: ps) (f :: fs)
theorem AsFs.get {H : Hp} {F : List Nat} {ps : List PV} {fs : List FV} (h : AsFs H F ps fs) : ps.length = fs.length ∧ ∀ (i : Nat) (p : PV) (f : FV), ps[i]? = some p → fs[i]? = some f → AsF H F p f := by
  induction h with
  | nil => exact ⟨rfl, fun i p f h => by simp at h⟩
  | cons p f ps fs h _ ih =>
    refine ⟨by simp [ih.1], fun i q r hq hr => ?_⟩
    cases i with
    | zero => simp at hq hr; subst hq; subst hr; exact h
    | succ i => exact ih.2 i q r (by simpa using hq) (by simpa using hr)

theorem AsF.agree {H H' : Hp} {F : List Nat} (ha : ∀ i, F.contains i = true → hlook H' i = hlook H i) {p : PV} {f : FV} (h : AsF H F p f) : AsF H' F p f := by
  induction h with
  | fz f => exact .fz f
  | sl id sz lo len rows rs h1 h2 h3 h4 => exact .sl id sz lo len rows rs h1 ((ha id h1).trans h2) h3 h4
  | slr id sz lo len rows rs h1 h2 h3 h4 _ h6 ih => exact .slr id sz lo len rows rs h1 ((ha id h1).trans h2) h3 h4 ih h6
  | agg ps fs h1 _ ih => exact .agg ps fs h1 ih
  | tup ps fs h1 _ ih => exact .tup ps fs h1 ih
  | ptr id sz row col rows r fs h1 h2 h3 h4 => exact .ptr id sz row col rows r fs h1 ((ha id h1).trans h2) h3 h4
theorem AsFs.agree {H H' : Hp} {F : List Nat} (ha : ∀ i, F.contains i = true → hlook H' i = hlook H i) {ps : List PV} {fs : List FV} (h : AsFs H F ps fs) : AsFs H' F ps fs := by
  induction h with
  | nil => exact .nil
  | cons p f ps fs h _ ih => exact .cons p f ps fs (h.agree ha) ih
/-- a call that reads owned objects for its time, and hands back plain values -/
theorem op_call_lendS {f : FuncId} {cf : Operand} {xs : List Operand} {ts : Array TypeId} {ps : List PV} {args : List FV} {res : FV} (F : List Nat) (hM : g = true → Pure P f args res) [hb : FnB P f] (ho : o.op = .call { callee := .value cf, args := xs.toArray, argTypes := ts })
    (hf : Opd G g cf (.clo f [] [])) (hx : Opds G g xs ps) (hps : AsFs H F ps args) (hF : F.all (fun id => (hlook H id).isSome) = true) (hml : memless res = true) : OpS P o g G H nx (.fz res) H nx :=
  ⟨fun C S m a w hm hg ha K Q hK => by
    obtain ⟨vf, vc, e1, e2, e3⟩ := call_args hg ha ho hf hx
    have hrun := run_call (P := P) (f := f) (w := w) ho e1
    obtain ⟨p1, p2⟩ := hps.get
    let C2 : Cx := ⟨w, fun _ => False, addF S m F, fun _ => none, 0⟩
    have hm2 : Mem C2 [] 0 C2.S0 C2.m0 C2.w0 := by
      refine ⟨⟨rfl, Nat.le_refl _⟩, rfl, rfl, fun _ _ => rfl, Nat.le_refl _, fun _ _ _ => rfl, Le.refl _ _ _, fun b h => .inl h, fun i x hx => (by cases hx), fun i o h => (by cases h), fun i o b h => (by cases h), fun i j o1 o2 b h => (by cases h), fun b hb => ?_, fun _ _ => rfl⟩
      rcases hb with hb | ⟨id, hid, hb⟩
      · exact hm.stab b hb
      · have := List.all_eq_true.1 hF id (by simpa using hid)
        obtain ⟨o2, ho2⟩ := Option.isSome_iff_exists.1 this
        exact (hm.blk id o2 b ho2 hb).2.1
    have hc := (hM hg).run C2 (vf ++ xs.map a.eval ++ vc) rfl hm2 (by rw [e2]; simp [p1]) (fun i v p h1 h2 => by
      rw [List.getElem?_map] at h2
      obtain ⟨q, hq, rfl⟩ := Option.map_eq_some_iff.1 h2
      have hi : i < ps.length := by rw [p1]; exact (List.getElem?_eq_some_iff.1 hq).1
      have hp : ps[i]? = some ps[i] := by simp [hi]
      exact .fz _ _ ((p2 i _ q hp hq).rep hm (fun b h => .inl h) (fun id b h1 h2 => .inr ⟨id, h1, h2⟩) v (e3 i v ps[i] h1 (by simpa using hp))))
    refine wp_enter (by simpa using hrun) hc fun e w' ⟨v, S', m', he, k1, k2⟩ => ⟨v, he, ?_⟩
    have hsame : ∀ b, b < w.heap.size → w'.heap[b]? = w.heap[b]? := fun b hb => k1.frame b hb (fun h => h)
    have hle : Le S m w S m w' := ⟨fun _ h => h, fun b hb => hsame b (hm.stab b hb), fun _ _ h => h, k1.le.room⟩
    refine hK v w' S m (hm.step hle k1.os k1.tape k1.output k1.fz k1.size (fun b hb _ => hsame b (Nat.lt_of_lt_of_le hb hm.size)) (fun b h => .inl h) (fun id o2 h => (hm.objs id o2 h).mono hle fun b hb => hsame b (hm.blk id o2 b h hb).2.1) (fun id o2 b h hb => ?_) hm.inj (fun b hb => Nat.lt_of_lt_of_le (hm.stab b hb) k1.size) hm.fresh) hle (.fz _ _ (k2.frz.memless hml))
    obtain ⟨q1, q2, q3⟩ := hm.blk id o2 b h hb
    exact ⟨q1, Nat.lt_of_lt_of_le q2 k1.size, q3⟩⟩
theorem op_call_lend {f : FuncId} {cf : Operand} {xs : List Operand} {ts : Array TypeId} {ps : List PV} {args : List FV} {res : FV} (F : List Nat) (hM : g = true → Pure P f args res) [hb : FnB P f] (ho : o.op = .call { callee := .value cf, args := xs.toArray, argTypes := ts })
    (hf : Opd G g cf (.clo f [] [])) (hx : Opds G g xs ps) (hps : AsFs H F ps args) (hF : F.all (fun id => (hlook H id).isSome) = true) (hml : memless res = true) : OpL P o g G H F (.fz res) := fun H' nx' ha =>
  op_call_lendS F hM ho hf hx (hps.agree ha) (by
    rw [List.all_eq_true] at hF ⊢
    exact fun i hi => by rw [ha i (by simpa using hi)]; exact hF i hi) hml
end
end Go.RT
/- The engine, part 13: the steps of a walk, as0 they are met. -/
namespace Go.RT
set_option linter.all false
section
variable {P : Program} {C : Cx} {N : Nat} {G : Env} {H : Hp} {nx : Nat} {Q : Exit → Act → World → Prop} {K : Act → World → Prop}

theorem s_then (h : Next C N G H nx K) : Next C N G H nx (Exit.then K Q .normal) := h
theorem s_then_ret (h : Next C N G H nx (Q .ret)) : Next C N G H nx (Exit.then K Q .ret) := h
theorem s_then_exit {id : Nat} (h : Next C N G H nx (Q (.exit id))) : Next C N G H nx (Exit.then K Q (.exit id)) := h
theorem s_blk (id : Nat) (h : Next C N G H nx (Q .normal)) : Next C N G H nx (Exit.inBlock id Q .normal) := h
theorem s_blk_ret {id : Nat} (h : Next C N G H nx (Q .ret)) : Next C N G H nx (Exit.inBlock id Q .ret) := h
theorem s_blk_hit {id : Nat} (h : Next C N G H nx (Q .normal)) : Next C N G H nx (Exit.inBlock id Q (.exit id)) := by rw [blk_hit]; exact h
theorem s_blk_miss {id id' : Nat} (hb : Nat.beq id' id = false) (h : Next C N G H nx (Q (.exit id'))) : Next C N G H nx (Exit.inBlock id Q (.exit id')) := by rw [blk_miss hb]; exact h

/-- H1 is H with entries ahead of it -/
inductive Ext : Hp → Hp → List Nat → Prop where
  | refl (H : Hp) : Ext H H []
  | cons (i : Nat) (o : Option Ob) (H1 H : Hp) (W : List Nat) : Ext H1 H W → Ext ((i, o) :: H1) H (i :: W)
theorem Ext.chg {H1 H : Hp} {W : List Nat} (h : Ext H1 H W) : Chg (some W) H1 H := by
  intro L hL i hi
  cases hL
  induction h with
  | refl => rfl
  | cons j o H1 H W _ ih =>
    simp only [List.contains_cons, Bool.or_eq_false_iff, beq_eq_false_iff_ne] at hi
    rw [hlook_cons, if_neg (fun e => hi.1 e.symm)]
    exact ih hi.2
/-- the lexical run with what follows: nothing is left open but the value that each operation yields -/
inductive Run (P : Program) (ops : Array Oper) (F : List Kd → Env → Hp → Nat → Prop) : List Oper → Env → Hp → Nat → List Kd → Prop where
  | nil {G : Env} {H : Hp} {nx : Nat} {ks : List Kd} : F ks.reverse G H nx → Run P ops F [] G H nx ks
  | pure {o : Oper} {rest : List Oper} {G : Env} {H : Hp} {nx : Nat} {ks : List Kd} {p : PV} {dd : Option Tmp} (hg : o.guard = none) (hdd : o.dst = dd)
      (h : ∀ H nx, OpS P o true G H nx p H nx) (tl : Run P ops F rest (gput G dd p) H nx (.p :: ks)) : Run P ops F (o :: rest) G H nx ks
  | pureG {o : Oper} {rest : List Oper} {G : Env} {H : Hp} {nx : Nat} {ks : List Kd} {p : PV} {j : Nat} {b g : Bool} {d : Tmp} {dd : Option Tmp} (hg : o.guard = some (j, b)) (hdd : o.dst = dd)
      (hd : dstOf ops j = some d) (hl : Grd G d b g) (h : ∀ H nx, OpS P o g G H nx p H nx) (tl : Run P ops F rest (gput G dd (.opt g p)) H nx (.p :: ks)) : Run P ops F (o :: rest) G H nx ks
  | load {o : Oper} {rest : List Oper} {G : Env} {H : Hp} {nx : Nat} {ks : List Kd} {p : PV} {dd : Option Tmp} {R : List Nat} (hg : o.guard = none) (hdd : o.dst = dd)
      (h : OpL P o true G H R p) (tl : Run P ops F rest (gput G dd p) H nx (.l R :: ks)) : Run P ops F (o :: rest) G H nx ks
  | loadG {o : Oper} {rest : List Oper} {G : Env} {H : Hp} {nx : Nat} {ks : List Kd} {p : PV} {j : Nat} {b g : Bool} {d : Tmp} {dd : Option Tmp} (hg : o.guard = some (j, b)) (hdd : o.dst = dd)
      (hd : dstOf ops j = some d) (hl : Grd G d b g) {R : List Nat} (h : OpL P o g G H R p) (tl : Run P ops F rest (gput G dd (.opt g p)) H nx (.l R :: ks)) : Run P ops F (o :: rest) G H nx ks
  | eff {o : Oper} {rest : List Oper} {G : Env} {H : Hp} {nx : Nat} {ks : List Kd} {p : PV} {H1 : Hp} {nx1 : Nat} {dd : Option Tmp} (hg : o.guard = none) (hdd : o.dst = dd)
      (h : OpS P o true G H nx p H1 nx1) (tl : Run P ops F rest (gput G dd p) H1 nx1 (.e none :: ks)) : Run P ops F (o :: rest) G H nx ks
  | effW {o : Oper} {rest : List Oper} {G : Env} {H : Hp} {nx : Nat} {ks : List Kd} {p : PV} {H1 : Hp} {nx1 : Nat} {dd : Option Tmp} {W : List Nat} (hg : o.guard = none) (hdd : o.dst = dd)
      (h : OpS P o true G H nx p H1 nx1) (hW : Ext H1 H W) (tl : Run P ops F rest (gput G dd p) H1 nx1 (.e (some W) :: ks)) : Run P ops F (o :: rest) G H nx ks

theorem Run.der {P : Program} {ops : Array Oper} {F : List Kd → Env → Hp → Nat → Prop} {l : List Oper} {G : Env} {H : Hp} {nx : Nat} {k0 : List Kd} (h : Run P ops F l G H nx k0) : ∃ ks G' H' nx', Der P ops l G H nx ks G' H' nx' ∧ F (k0.reverse ++ ks) G' H' nx' := by
  induction h with
  | nil h => exact ⟨[], _, _, _, .nil, by simpa using h⟩
  | pure hg hdd h _ ih => subst hdd; obtain ⟨ks, G', H', nx', hd, hF⟩ := ih; exact ⟨_, _, _, _, .pure hg h hd, by simpa using hF⟩
  | pureG hg hdd hd hl h _ ih => subst hdd; obtain ⟨ks, G', H', nx', hd', hF⟩ := ih; exact ⟨_, _, _, _, .pureG hg hd hl h hd', by simpa using hF⟩
  | load hg hdd h _ ih => subst hdd; obtain ⟨ks, G', H', nx', hd, hF⟩ := ih; exact ⟨_, _, _, _, .load hg h hd, by simpa using hF⟩
  | loadG hg hdd hd hl h _ ih => subst hdd; obtain ⟨ks, G', H', nx', hd', hF⟩ := ih; exact ⟨_, _, _, _, .loadG hg hd hl h hd', by simpa using hF⟩
  | eff hg hdd h _ ih => subst hdd; obtain ⟨ks, G', H', nx', hd, hF⟩ := ih; exact ⟨_, _, _, _, .eff hg h (W := none) (fun _ h => by cases h) hd, by simpa using hF⟩
  | effW hg hdd h hW _ ih => subst hdd; obtain ⟨ks, G', H', nx', hd, hF⟩ := ih; exact ⟨_, _, _, _, .eff hg h hW.chg hd, by simpa using hF⟩

structure FinR (C : Cx) (N : Nat) (l : List Oper) (K : Act → World → Prop) (ks : List Kd) (G : Env) (H : Hp) (nx : Nat) : Prop where
  next : Next C N G H nx K
structure FinD (C : Cx) (N : Nat) (l : List Oper) (K : Act → World → Prop) (ks : List Kd) (G : Env) (H : Hp) (nx : Nat) : Prop where
  ok : regOK l.toArray ks N = true
  next : Next C N G H nx K

theorem s_reg {id : Nat} {l : List Oper} (hok : dstsOK l N = true) (h : Run P l.toArray (FinR C N l (Q .normal)) l G H nx []) : Next C N G H nx ((Code.region id l.toArray false).wp P Q) := by
  obtain ⟨ks, G', H', nx', hd, hF⟩ := h.der
  exact plain_region hd hok hF.next
theorem s_draw {id : Nat} {l : List Oper} (hm : P.follows .mixedOrders = true) (h : Run P l.toArray (FinD C N l (Q .normal)) l G H nx []) : Next C N G H nx ((Code.region id l.toArray true).wp P Q) := by
  obtain ⟨ks, G', H', nx', hd, hF⟩ := h.der
  exact draw_region hm hd hF.ok hF.next
/-- facts may be restated -/
theorem s_env {G' : Env} {H' : Hp} {nx' : Nat} (hG : G = G') (hH : H = H') (hn : nx = nx') (h : Next C N G' H' nx' K) : Next C N G H nx K := by subst hG; subst hH; subst hn; exact h
/-- only these facts are kept -/
theorem s_keep {G' : Env} {H' : Hp} (hG : ∀ t p, look G' t = some p → look G t = some p) (hH : ∀ i o, hlook H' i = some o → hlook H i = some o) (h : Next C N G' H' nx K) : Next C N G H nx K := by
  intro a w hr
  obtain ⟨S, m, hm, hsl⟩ := hr.mem
  exact h a w ⟨hr.defers, hr.size, S, m, hm.step (Le.refl _ _ _) ⟨rfl, Nat.le_refl _⟩ rfl rfl (fun _ _ => rfl) (Nat.le_refl _) (fun _ _ _ => rfl) (fun _ h => .inl h) (fun i o ho => hm.objs i o (hH i o ho)) (fun i o b ho => hm.blk i o b (hH i o ho))
    (fun i j o o' b h1 h2 => hm.inj i j o o' b (hH _ _ h1) (hH _ _ h2)) hm.stab hm.fresh, fun t q hq => hsl t q (hG t q hq)⟩

/-- the end of a pure function: whatever it owns is forgotten -/
theorem s_out0 {fn : Func} (hC : C.n0 = 0) (hres : fn.results = #[]) : Next C N G H nx (Out P fn C (.fz (.tup [])) [] 0 .ret) :=
  Next.weak (G' := []) (H' := []) [] [] rfl (keeps0 hC _) trivial trivial (fun id h => by simp at h) (n_out0 hres)
/-- a result variable, as0 frozen data -/
inductive RV (P : Program) (G : Env) (H : Hp) : ResultVar → FV → Prop where
  | tmp (r : Tmp) (f : FV) : look G r = some (.fz f) → RV P G H (.tmp r) f
  | cell (r : Tmp) (t : TypeId) (id sz by_ : Nat) (z : Value) (fs : List FV) : TyA P t true → TyN P t sz by_ z → look G r = some (.ptr id sz 0 0) → hlook H id = some (.flat sz [fs]) → RV P G H (.cell r t) (.agg fs)
  | cell1 (r : Tmp) (t : TypeId) (id : Nat) (f : FV) : TyA P t false → look G r = some (.ptr id 1 0 0) → hlook H id = some (.flat 1 [[f]]) → RV P G H (.cell r t) f
theorem RV.run {rv : ResultVar} {f : FV} {S : Nat → Prop} {m : Ids} {a : Act} {w : World} (h : RV P G H rv f) (hm : Mem C H nx S m w) (hsl : ∀ t q, look G t = some q → RepAt w S m a t q) :
    ∃ v, FRep w S v f ∧ ((∃ r, rv = .tmp r ∧ a.tmps[r]?.getD undef = v) ∨ ∃ r t ad, rv = .cell r t ∧ a.tmps[r]?.getD undef = .pointer (some ad) ∧ (loadVar t ad).run P w = .ok v w) := by
  cases h with
  | tmp r f hl =>
    obtain ⟨v, hv, hr⟩ := hsl r _ hl
    exact ⟨v, hr.frz, .inl ⟨r, rfl, by simp [hv]⟩⟩
  | cell r t id sz by_ z fs h1 h2 hl hh =>
    obtain ⟨v, hv, hr⟩ := hsl r _ hl
    cases hr with
    | ptr _ _ _ _ b hb =>
      rcases hm.objs id _ hh with ⟨k1, _⟩ | ⟨b', c, e, k1, hc, k3, k4, k5⟩
      · rw [hb] at k1; cases k1
      · rw [hb] at k1; cases k1
        obtain ⟨us, hul, hcc, hrr⟩ := cells_list (w := w) (b := b) (off := 0) (R := FRep w S) (fs := fs) fun j f hf => by
          obtain ⟨u, hu, ho1, hp⟩ := k5 0 j fs f rfl hf
          exact ⟨u, own_cell hc (by simpa using hu), ho1, hp⟩
        have hfl : fs.length = sz := k4 fs (by simp)
        have := run_loadn (P := P) (t := t) (w := w) (ad := ⟨b, 0, none⟩) (by rw [hul, hfl]) (fun j u hu => (hcc j u hu).1)
        exact ⟨.agg us.toArray, frep_agg hul (fun j u hu => (hcc j u hu).2) hrr, .inr ⟨r, t, _, rfl, by simp [hv], this⟩⟩
  | cell1 r t id f h1 hl hh =>
    obtain ⟨v, hv, hr⟩ := hsl r _ hl
    cases hr with
    | ptr _ _ _ _ b hb =>
      rcases hm.objs id _ hh with ⟨k1, _⟩ | ⟨b', c, e, k1, hc, k3, k4, k5⟩
      · rw [hb] at k1; cases k1
      · rw [hb] at k1; cases k1
        obtain ⟨u, hu, _, hp⟩ := k5 0 0 [f] f rfl rfl
        have := run_load1 (P := P) (t := t) (w := w) (ad := ⟨b, 0, none⟩) (own_cell hc (by simpa using hu))
        exact ⟨u, hp, .inr ⟨r, t, _, rfl, by simp [hv], this⟩⟩

theorem s_ofin {fn : Func} {f : FV} (hC : C.n0 = 0) (h : ∀ (S : Nat → Prop) (m : Ids) (a : Act) (w : World), Mem C H nx S m w → (∀ t q, look G t = some q → RepAt w S m a t q) → ∃ v, (results fn a.tmps).run P w = .ok v w ∧ FRep w S v f) : Next C N G H nx (Out P fn C (.fz f) [] 0 .ret) := by
  intro a w hr
  obtain ⟨S, m, hm, hsl⟩ := hr.mem
  obtain ⟨v, h1, h2⟩ := h S m a w hm hsl
  obtain ⟨k1, k2⟩ := hm.weak (L := []) (F := []) (H' := []) rfl (keeps0 hC _) trivial (fun id hid => by simp at hid)
  exact ⟨hr.defers, v, h1, v, _, _, rfl, k1, k2 v _ _ (.fz _ _ h2) (.inl ⟨rfl, rfl⟩)⟩
theorem s_o1 {fn : Func} {f : FV} {rv : ResultVar} (hC : C.n0 = 0) (hres : fn.results = #[rv]) (h : RV P G H rv f) : Next C N G H nx (Out P fn C (.fz f) [] 0 .ret) :=
  s_ofin hC fun S m a w hm hsl => by
    obtain ⟨v, h2, h1⟩ := h.run hm hsl
    refine ⟨v, ?_, h2⟩
    rcases h1 with ⟨r, rfl, e1⟩ | ⟨r, t, ad, rfl, e1, e2⟩ <;> simp [results, hres, asAddr, *]
theorem s_o2 {fn : Func} {f1 f2 : FV} {rv1 rv2 : ResultVar} (hC : C.n0 = 0) (hres : fn.results = #[rv1, rv2]) (h : RV P G H rv1 f1) (h' : RV P G H rv2 f2) : Next C N G H nx (Out P fn C (.fz (.tup [f1, f2])) [] 0 .ret) :=
  s_ofin hC fun S m a w hm hsl => by
    obtain ⟨v1, h2, h1⟩ := h.run hm hsl
    obtain ⟨v2, h4, h3⟩ := h'.run hm hsl
    refine ⟨.tuple #[v1, v2], ?_, (rep_tup2 (m := m) (.fz _ _ h2) (.fz _ _ h4)).frz⟩
    rcases h1 with ⟨r, rfl, e1⟩ | ⟨r, t, ad, rfl, e1, e2⟩ <;> rcases h3 with ⟨r', rfl, e3⟩ | ⟨r', t', ad', rfl, e3, e4⟩ <;> simp [results, hres, asAddr, *]
theorem s_o3 {fn : Func} {f1 f2 f3 : FV} {rv1 rv2 rv3 : ResultVar} (hC : C.n0 = 0) (hres : fn.results = #[rv1, rv2, rv3]) (h : RV P G H rv1 f1) (h' : RV P G H rv2 f2) (h'' : RV P G H rv3 f3) : Next C N G H nx (Out P fn C (.fz (.tup [f1, f2, f3])) [] 0 .ret) :=
  s_ofin hC fun S m a w hm hsl => by
    obtain ⟨v1, h2, h1⟩ := h.run hm hsl
    obtain ⟨v2, h4, h3⟩ := h'.run hm hsl
    obtain ⟨v3, h6, h5⟩ := h''.run hm hsl
    refine ⟨.tuple #[v1, v2, v3], ?_, (rep_tup3 (m := m) (.fz _ _ h2) (.fz _ _ h4) (.fz _ _ h6)).frz⟩
    rcases h1 with ⟨r, rfl, e1⟩ | ⟨r, t, ad, rfl, e1, e2⟩ <;> rcases h3 with ⟨r', rfl, e3⟩ | ⟨r', t', ad', rfl, e3, e4⟩ <;> rcases h5 with ⟨r'', rfl, e5⟩ | ⟨r'', t'', ad'', rfl, e5, e6⟩ <;> simp [results, hres, asAddr, *]
/-- an owned slice handed out, under the number 0 -/
theorem s_outO {fn : Func} {r : Tmp} {id sz len : Nat} {rows : List (List FV)} (hC : C.n0 = 0) (hres : fn.results = #[.tmp r]) (hl : look G r = some (.sl id sz 0 len)) (hh : hlook H id = some (.flat sz rows)) : Next C N G H nx (Out P fn C (.sl 0 sz 0 len) [(0, some (.flat sz rows))] 1 .ret) :=
  Next.weak (G' := [(r, .sl 0 sz 0 len)]) (H' := [(0, some (.flat sz rows))]) [id] [] rfl (keeps0 hC _) ⟨⟨_, hl, .inl ⟨rfl, rfl⟩⟩, trivial⟩ ⟨⟨rfl, rfl, hh, trivial⟩, trivial⟩ (fun id h => by simp at h) (n_out1 hres (by simp [look_cons]) rfl rfl)
/-- the value may be restated -/
theorem castP {o : Oper} {g : Bool} {p p' : PV} (h : g = true → p = p') (hp : ∀ H nx, OpS P o g G H nx p H nx) : ∀ H nx, OpS P o g G H nx p' H nx :=
  fun H nx => ⟨fun C S m a w hm hg ha K Q hK => (hp H nx).run C S m a w hm hg ha K Q fun v w' S' m' k1 k2 k3 => hK v w' S' m' k1 k2 (h hg ▸ k3)⟩
theorem castS {o : Oper} {g : Bool} {p p' : PV} {H' H'' : Hp} {nx' nx'' : Nat} (h : p = p') (hH : H' = H'') (hn : nx' = nx'') (hp : OpS P o g G H nx p H' nx') : OpS P o g G H nx p' H'' nx'' := by subst h; subst hH; subst hn; exact hp
end
end Go.RT
/- The engine, part 14: '==' on structs of numbers; on bools. -/
namespace Go.RT
set_option linter.all false

def isIntT (P : Program) (t : TypeId) : Bool := match P.underlying t with | some (.int _) => true | _ => false
def isBoolT (P : Program) (t : TypeId) : Bool := match P.underlying t with | some .bool => true | _ => false
def flatInts (P : Program) : List Field → Nat → Nat → Bool
  | [], k, n => k == n
  | f :: r, k, n => f.name != "_" && f.offset == k && (isIntT P f.type || isBoolT P f.type) && flatInts P r (k + 1) n
class EqS (P : Program) (t : TypeId) (n : outParam Nat) : Prop where
  h : P.underlying t = some (.struct (P.fieldsOf t)) ∧ P.stoodInHeld t = false ∧ P.eqGuardType P.depth t = false ∧ flatInts P (P.fieldsOf t).toList 0 n = true

/-- the numbers of two rows, one by one -/
def eqFs : List FV → List FV → Bool
  | [], [] => true
  | .lit (.int _ a) :: r, .lit (.int _ b) :: s => decide (a = b) && eqFs r s
  | .lit (.bool a) :: r, .lit (.bool b) :: s => decide (a = b) && eqFs r s
  | _, _ => false
/-- the cells fit: numbers of like kinds, bools, where the fields say so -/
def fitFs (P : Program) : List Field → List FV → List FV → Bool
  | [], [], [] => true
  | f :: fs, .lit (.int k _) :: r, .lit (.int k' _) :: s => isIntT P f.type && decide (k = k') && fitFs P fs r s
  | f :: fs, .lit (.bool _) :: r, .lit (.bool _) :: s => isBoolT P f.type && fitFs P fs r s
  | _, _, _ => false

theorem run_part1 {P : Program} {t : TypeId} (h : isIntT P t = true ∨ isBoolT P t = true) (cs : Array Value) (off : Nat) {v : Value} (hv : cs[off]? = some v) (w : World) : (part t cs off).run P w = .ok v w := by
  have : TyA P t false := by
    rcases h with h | h
    · unfold isIntT at h
      split at h
      · rename_i k e; exact ⟨_, e, rfl⟩
      · cases h
    · unfold isBoolT at h
      split at h
      · rename_i e; exact ⟨_, e, rfl⟩
      · cases h
  simp [part, run_isAgg this, hv]

theorem eqFields_run {P : Program} {w : World} {S : Nat → Prop} (d : Nat) (xs ys : Array Value) (FX FY : List FV) (hx : xs.size = FX.length) (hy : ys.size = FY.length) (rx : ∀ (i : Nat) (c : Value) (f : FV), xs[i]? = some c → FX[i]? = some f → FRep w S c f) (ry : ∀ (i : Nat) (c : Value) (f : FV), ys[i]? = some c → FY[i]? = some f → FRep w S c f) :
    ∀ (fs : List Field) (k n : Nat), flatInts P fs k n = true → fitFs P fs (FX.drop k) (FY.drop k) = true → (Op.eqFields (d + 1) xs ys fs).run P w = .ok (eqFs (FX.drop k) (FY.drop k)) w
  | [], k, n, _, hfit => by
    generalize FX.drop k = a at *
    generalize FY.drop k = b at *
    match a, b, hfit with
    | [], [], _ => simp [Op.eqFields, eqFs]
  | f :: fs, k, n, hfl, hfit => by
    simp only [flatInts, Bool.and_eq_true, bne_iff_ne, ne_eq, beq_iff_eq, Bool.or_eq_true] at hfl
    obtain ⟨⟨⟨h1, h2⟩, h3⟩, h4⟩ := hfl
    have tail : ∀ (F : List FV) (x : FV) (r : List FV), F.drop k = x :: r → F[k]? = some x ∧ r = F.drop (k + 1) := fun F x r e => by
      have e1 : F[k]? = some x := by rw [← List.head?_drop, e]; rfl
      refine ⟨e1, ?_⟩
      have : (F.drop k).tail = F.drop (k + 1) := by simp
      rw [e] at this; exact this
    have cell : ∀ (A : Array Value) (F : List FV) (x : FV), A.size = F.length → F[k]? = some x → ∃ c, A[k]? = some c := fun A F x hs e => by
      have : k < A.size := by rw [hs]; exact (List.getElem?_eq_some_iff.1 e).1
      exact ⟨A[k], by simp [this]⟩
    generalize ha : FX.drop k = a at *
    generalize hb : FY.drop k = b at *
    match a, b, hfit with
    | .lit (.int k1 u) :: r, .lit (.int k2 v) :: s, hfit =>
      simp only [fitFs, Bool.and_eq_true, decide_eq_true_eq] at hfit
      obtain ⟨⟨q1, rfl⟩, q3⟩ := hfit
      obtain ⟨e1, e2⟩ := tail FX _ _ ha
      obtain ⟨e3, e4⟩ := tail FY _ _ hb
      obtain ⟨c1, hc1⟩ := cell xs FX _ hx e1
      obtain ⟨c2, hc2⟩ := cell ys FY _ hy e3
      have r1 := rx k c1 _ hc1 e1
      have r2 := ry k c2 _ hc2 e3
      cases r1; cases r2
      have hint : ∃ kk, P.underlying f.type = some (.int kk) := by
        unfold isIntT at q1
        split at q1
        · rename_i kk e; exact ⟨kk, e⟩
        · cases q1
      obtain ⟨kk, hkk⟩ := hint
      have ih := eqFields_run d xs ys FX FY hx hy rx ry fs (k + 1) n h4 (by rw [← e2, ← e4]; exact q3)
      rw [← e2, ← e4] at ih
      subst h2
      simp only [Op.eqFields, h1, not_false_eq_true, if_true, Sem.run_bind, run_part1 h3 xs _ hc1, run_part1 h3 ys _ hc2, Result.andThen_ok, run_equalIn_int w d f.type k1 kk u v hkk, eqFs, ne_eq]
      by_cases huv : u = v
      · subst huv; simp [ih]
      · have : (u == v) = false := by simpa using huv
        simp [huv, this]
    | .lit (.bool u) :: r, .lit (.bool v) :: s, hfit =>
      simp only [fitFs, Bool.and_eq_true] at hfit
      obtain ⟨q1, q3⟩ := hfit
      obtain ⟨e1, e2⟩ := tail FX _ _ ha
      obtain ⟨e3, e4⟩ := tail FY _ _ hb
      obtain ⟨c1, hc1⟩ := cell xs FX _ hx e1
      obtain ⟨c2, hc2⟩ := cell ys FY _ hy e3
      have r1 := rx k c1 _ hc1 e1
      have r2 := ry k c2 _ hc2 e3
      cases r1; cases r2
      have hbl : P.underlying f.type = some .bool := by
        unfold isBoolT at q1
        split at q1
        · rename_i e; exact e
        · cases q1
      have ih := eqFields_run d xs ys FX FY hx hy rx ry fs (k + 1) n h4 (by rw [← e2, ← e4]; exact q3)
      rw [← e2, ← e4] at ih
      subst h2
      simp only [Op.eqFields, h1, not_false_eq_true, if_true, Sem.run_bind, run_part1 h3 xs _ hc1, run_part1 h3 ys _ hc2, Result.andThen_ok, run_equalIn_bool' w d f.type u v hbl, eqFs, ne_eq]
      by_cases huv : u = v
      · subst huv; simp [ih]
      · have : (u == v) = false := by simpa using huv
        simp [huv, this]

section
variable {P : Program} {o : Oper} {g : Bool} {G : Env} {x y : Operand} {t t' : TypeId}
theorem op_eqS {n : Nat} {fs gs : List FV} [h : EqS P t n] (ho : o.op = .binOp .eql t x y t') (hx : Opd G g x (.fz (.agg fs))) (hy : Opd G g y (.fz (.agg gs))) (hfit : fitFs P (P.fieldsOf t).toList fs gs = true) : OpP P o g G (BV (eqFs fs gs)) :=
  .of fun S m a w hg ha => by
    obtain ⟨h1, h2, h3, h4⟩ := h.h
    have r1 := (hx.rep hg (by simp [ho, Op.operands]) ha).frz
    have r2 := (hy.rep hg (by simp [ho, Op.operands]) ha).frz
    generalize hv1 : a.eval x = v1 at r1
    generalize hv2 : a.eval y = v2 at r2
    cases r1 with
    | agg cs _ l1 k1 _ =>
      cases r2 with
      | agg ds _ l2 k2 _ =>
        have := eqFields_run (P := P) (w := w) 9998 cs ds fs gs l1 l2 k1 k2 _ 0 n h4 (by simpa using hfit)
        refine ⟨.bool (eqFs fs gs), ?_, .fz _ _ (.lit _)⟩
        simp only [execOp, ho, hv1, hv2, Sem.run_bind, run_eqGuard_agg w _ t x y cs ds h3, Result.andThen_ok, run_eql_struct, run_equalIn_struct w 9999 t cs ds h1 h2]
        simp only [List.drop_zero] at this
        simp [this]
theorem op_neS {n : Nat} {fs gs : List FV} [h : EqS P t n] (ho : o.op = .binOp .neq t x y t') (hx : Opd G g x (.fz (.agg fs))) (hy : Opd G g y (.fz (.agg gs))) (hfit : fitFs P (P.fieldsOf t).toList fs gs = true) : OpP P o g G (BV (!eqFs fs gs)) :=
  .of fun S m a w hg ha => by
    obtain ⟨h1, h2, h3, h4⟩ := h.h
    have r1 := (hx.rep hg (by simp [ho, Op.operands]) ha).frz
    have r2 := (hy.rep hg (by simp [ho, Op.operands]) ha).frz
    generalize hv1 : a.eval x = v1 at r1
    generalize hv2 : a.eval y = v2 at r2
    cases r1 with
    | agg cs _ l1 k1 _ =>
      cases r2 with
      | agg ds _ l2 k2 _ =>
        have := eqFields_run (P := P) (w := w) 9998 cs ds fs gs l1 l2 k1 k2 _ 0 n h4 (by simpa using hfit)
        refine ⟨.bool (!eqFs fs gs), ?_, .fz _ _ (.lit _)⟩
        simp only [execOp, ho, hv1, hv2, Sem.run_bind, run_eqGuard_agg w _ t x y cs ds h3, Result.andThen_ok, run_neq_struct, run_equalIn_struct w 9999 t cs ds h1 h2]
        simp only [List.drop_zero] at this
        simp [this]
theorem op_eqlB {u v : Bool} [hd : TyD P t .bool] (ho : o.op = .binOp .eql t x y t') (hx : Opd G g x (BV u)) (hy : Opd G g y (BV v)) : OpP P o g G (BV (decide (u = v))) :=
  .of fun S m a w hg ha => by
    have r1 := (hx.rep hg (by simp [ho, Op.operands]) ha).lit
    have r2 := (hy.rep hg (by simp [ho, Op.operands]) ha).lit
    refine ⟨.bool (decide (u = v)), ?_, .fz _ _ (.lit _)⟩
    simp [execOp, ho, r1, r2, eqGuard, binOp, Op.equal, Op.maxDepth, run_equalIn_bool' w 9999 t u v hd.h]; cases u <;> cases v <;> rfl
theorem op_neqB {u v : Bool} [hd : TyD P t .bool] (ho : o.op = .binOp .neq t x y t') (hx : Opd G g x (BV u)) (hy : Opd G g y (BV v)) : OpP P o g G (BV (decide (u ≠ v))) :=
  .of fun S m a w hg ha => by
    have r1 := (hx.rep hg (by simp [ho, Op.operands]) ha).lit
    have r2 := (hy.rep hg (by simp [ho, Op.operands]) ha).lit
    refine ⟨.bool (decide (u ≠ v)), ?_, .fz _ _ (.lit _)⟩
    simp [execOp, ho, r1, r2, eqGuard, binOp, Op.equal, Op.maxDepth, run_equalIn_bool' w 9999 t u v hd.h]; cases u <;> cases v <;> rfl
end
end Go.RT
/- The engine, part 15: shifts of natural numbers, and small helps. -/
namespace Go.RT
set_option linter.all false
theorem Sp.whole {α : Type} : ∀ (l cs : List α), l.length = cs.length → Sp l 0 cs cs
  | [], [], _ => .z _
  | a :: l, c :: cs, h => .w a c l cs cs (Sp.whole l cs (by simpa using h))
  | [], c :: cs, h => by simp at h
  | a :: l, [], h => by simp at h
section
variable {P : Program} {o : Oper} {g : Bool} {G : Env} {x y : Operand} {t t' : TypeId} {k : IntKind}
theorem op_shrN {yk : IntKind} {m : Nat} {c : Int} (n : Nat) (ho : o.op = .binOp .shr t x y t') (hx : Opd G g x (IV k m)) (hy : Opd G g y (IV yk c)) (hn : g = true → c = n ∧ n ≤ k.bits) : OpP P o g G (IV k ((m / 2 ^ n : Nat) : Int)) := by
  have := op_shr (P := P) (n := n) ho hx hy hn
  have e : ((m / 2 ^ n : Nat) : Int) = (m : Int) / 2 ^ n := by simp
  rw [e]; exact this
theorem op_shlN {yk : IntKind} {m : Nat} {c : Int} (n : Nat) (ho : o.op = .binOp .shl t x y t') (hx : Opd G g x (IV k m)) (hy : Opd G g y (IV yk c)) (hn : g = true → c = n ∧ n ≤ k.bits ∧ inr k ((m * 2 ^ n : Nat) : Int)) : OpP P o g G (IV k ((m * 2 ^ n : Nat) : Int)) := by
  have e : ((m * 2 ^ n : Nat) : Int) = (m : Int) * 2 ^ n := by simp
  rw [e]
  exact op_shl (P := P) (n := n) ho hx hy (fun hg => by have := hn hg; rw [e] at this; exact this)
/-- 'x & 1' -/
theorem op_and1 {m : Nat} (ho : o.op = .binOp .and t x y t') (hx : Opd G g x (IV k m)) (hy : Opd G g y (IV k 1)) (hb : g = true → m < 2 ^ k.bits) (h1 : 1 < 2 ^ k.bits) : OpP P o g G (IV k ((m % 2 : Nat) : Int)) := by
  have := op_bits (P := P) (f := (· &&& ·)) (n := m) (m := 1) ho hx hy (.inl ⟨rfl, rfl⟩) (fun hg => ⟨hb hg, h1⟩) (fun _ => by
    simp only [Nat.and_one_is_mod]
    have : m % 2 < 2 := Nat.mod_lt _ (by omega)
    cases k <;> simp only [inr] <;> omega)
  simpa only [Nat.and_one_is_mod] using this
end
end Go.RT
/- The engine, part 16: from a law's contract to the row's statement: arguments read as0 data are frozen data; a call that only makes memory leaves the reading as0 it was. -/
namespace Go.RT
set_option linter.all false
open Go.ChangeShapes Go.WideShapes Go.ChangeAt Go.RowKit

section
variable {H : Type} {enc : TypeId × Value → H} {P : Program} {W : World}

/-- what is there when the call begins is frozen for the call -/
abbrev old (W : World) : Nat → Prop := fun b => b < W.heap.size

/-- cells that read at type t are frozen data of the form R -/
def RdC (enc : TypeId × Value → H) (P : Program) (W : World) (t : TypeId) (R : List FV → Prop) : Prop :=
  ∀ (fuel : Nat) (cs : List Value) (x : DataW H × List MemPlace), DataW.trod enc P W 0 (fun _ => true) true fuel t cs = some x →
    ∃ fs, R fs ∧ fs.length = cs.length ∧ ∀ (i : Nat) (c : Value) (f : FV), cs[i]? = some c → fs[i]? = some f → FRep W (old W) c f ∧ c.oneCell' = true

theorem wf_inr {k : IntKind} {n : Int} (h : (Lit.int k n).wf = true) : inr k n := by
  cases k <;> simp [Lit.wf, IntKind.has, IntKind.min, IntKind.max, IntKind.bits, IntKind.signed] at h <;> simp only [inr] <;> omega

theorem RdC.mono {t : TypeId} {R R' : List FV → Prop} (h : RdC enc P W t R) (hr : ∀ fs, R fs → R' fs) : RdC enc P W t R' := fun fuel cs x hx => by
  obtain ⟨fs, h1, h2⟩ := h fuel cs x hx
  exact ⟨fs, hr _ h1, h2⟩

theorem rdc_one {t : TypeId} {R : List FV → Prop} (h : ∀ (fuel : Nat) (cs : List Value) (x : DataW H × List MemPlace), DataW.trod enc P W 0 (fun _ => true) true fuel t cs = some x → ∃ c f, cs = [c] ∧ R [f] ∧ FRep W (old W) c f ∧ c.oneCell' = true) : RdC enc P W t R := fun fuel cs x hx => by
  obtain ⟨c, f, rfl, h1, h2, h3⟩ := h fuel cs x hx
  refine ⟨[f], h1, rfl, fun i c' f' hc hf => ?_⟩
  match i with
  | 0 => simp at hc hf; subst hc; subst hf; exact ⟨h2, h3⟩
  | i + 1 => simp at hc

theorem rdc_int {t : TypeId} {k : IntKind} (hd : TyD P t (.int k)) : RdC enc P W t (fun fs => ∃ n, inr k n ∧ fs = [If k n]) :=
  rdc_one fun fuel cs x hx => by
    obtain ⟨n, rfl, _, hw⟩ := DataW.trod_int hd.h hx
    exact ⟨_, If k n, rfl, ⟨n, wf_inr hw, rfl⟩, .lit _, rfl⟩
theorem rdc_bool {t : TypeId} (hd : TyD P t .bool) : RdC enc P W t (fun fs => ∃ b, fs = [Bf b]) :=
  rdc_one fun fuel cs x hx => by
    obtain ⟨b, rfl, _⟩ := DataW.trod_bool hd.h hx
    exact ⟨_, Bf b, rfl, ⟨b, rfl⟩, .lit _, rfl⟩
theorem rdc_string {t : TypeId} (hd : TyD P t .string) : RdC enc P W t (fun fs => ∃ s : ByteArray, s.size ≤ maxLen ∧ fs = [.lit (.string s)]) :=
  rdc_one fun fuel cs x hx => by
    obtain ⟨s, rfl, _, hm⟩ := DataW.trod_string hd.h hx
    exact ⟨_, .lit (.string s), rfl, ⟨s, hm, rfl⟩, .lit _, rfl⟩

theorem add_add' (a : Addr) (m n : Nat) : (a.add m).add n = a.add (m + n) := by
  unfold Addr.add
  by_cases hm : m = 0
  · subst hm; simp
  · by_cases hn : n = 0
    · subst hn; simp
    · simp [hm, hn]; omega
theorem addr_none {w : World} {a : Addr} {n : Nat} {u : Value} (h : w.cell? (a.add n) = some u) : ∃ b off, (n = 0 → a = ⟨b, off, none⟩) ∧ a.block = b ∧ a.off = off := by
  refine ⟨a.block, a.off, fun hn => ?_, rfl, rfl⟩
  subst hn
  have h0 : a.add 0 = a := by simp [Addr.add]
  rw [h0] at h
  obtain ⟨b, o, s⟩ := a
  cases s with
  | none => rfl
  | some s => unfold World.cell? at h; simp at h; split at h <;> simp at h

theorem rdc_slice {t e : TypeId} {sz by_ : Nat} {z : Value} {R : List FV → Prop} (hd : TyD P t (.slice e)) (hn : TyN P e sz by_ z) (h0 : 0 < sz) (he : RdC enc P W e R) :
    RdC enc P W t (fun fs => ∃ rows : List (List FV), (∀ r ∈ rows, R r) ∧ rows.length ≤ maxLen ∧ fs = [.vals sz rows]) :=
  rdc_one fun fuel cs x hx => by
    have hce : P.cellsOf e = sz := by
      obtain ⟨i, hi, h1, _⟩ := hn.h
      simp [Program.cellsOf, hi, h1]
    rcases DataW.trod_slice hd.h hx with ⟨rfl, _⟩ | ⟨a, len, cap, elems, rest, n, _, rfl, _, _, hlc, hcm, hel, hread, _, _⟩
    · exact ⟨_, .vals sz [], rfl, ⟨[], by simp, Nat.zero_le _, rfl⟩, .nil _ _ _, rfl⟩
    · -- the elements, one by one
      have hrow : ∀ i : Nat, ∃ r : List FV, i < len → R r ∧ r.length = sz ∧ ∀ (j : Nat) (f : FV), r[j]? = some f → ∃ u, W.cell? (a.add (i * sz + j)) = some u ∧ u.oneCell' = true ∧ FRep W (old W) u f := fun i => by
        by_cases hi : i < len
        · have hr := hread i hi
          rw [hce] at hr
          have hsome : elems[i]? = some (elems[i]'(by omega)) := by simp [hel, hi]
          rw [hsome] at hr
          obtain ⟨cs', hc1, hc2⟩ := Option.bind_eq_some_iff.1 hr
          obtain ⟨_, hcl, hcg⟩ := World.cells?_some hc1
          obtain ⟨fs, f1, f2, f3⟩ := he n cs' _ hc2
          refine ⟨fs, fun _ => ⟨f1, by rw [f2, hcl], fun j f hj => ?_⟩⟩
          have hjl : j < cs'.length := by rw [← f2]; exact (List.getElem?_eq_some_iff.1 hj).1
          have hcj : cs'[j]? = some cs'[j] := by simp [hjl]
          obtain ⟨g1, g2⟩ := f3 j cs'[j] f hcj hj
          have := hcg j (by omega)
          rw [hcj, add_add'] at this
          exact ⟨cs'[j], this, g2, g1⟩
        · exact ⟨[], fun h => absurd h hi⟩
      let rows := (List.range len).map fun i => Classical.choose (hrow i)
      have hrl : rows.length = len := by simp [rows]
      have hget : ∀ i r, rows[i]? = some r → i < len ∧ r = Classical.choose (hrow i) := fun i r h => by
        have hi : i < len := by rw [← hrl]; exact (List.getElem?_eq_some_iff.1 h).1
        simp only [rows, List.getElem?_map, List.getElem?_range hi, Option.map_some, Option.some.injEq] at h
        exact ⟨hi, h.symm⟩
      have hspec := fun i (hi : i < len) => Classical.choose_spec (hrow i) hi
      refine ⟨_, .vals sz rows, rfl, ⟨rows, fun r hr => ?_, by rw [hrl]; omega, rfl⟩, ?_, rfl⟩
      · obtain ⟨i, hi, he2⟩ := List.getElem_of_mem hr
        obtain ⟨h1, h2⟩ := hget i r (by simp [hi, he2])
        rw [h2]; exact (hspec i h1).1
      · by_cases hl0 : len = 0
        · subst hl0
          have : rows = [] := List.eq_nil_of_length_eq_zero hrl
          rw [this]; exact .nil _ _ _
        · have h00 := (hspec 0 (by omega)).2
          have hj0 : (Classical.choose (hrow 0))[0]? = some ((Classical.choose (hrow 0))[0]'(by rw [h00.1]; exact h0)) := by simp [h00.1, h0]
          obtain ⟨u, hu, _⟩ := h00.2 0 _ hj0
          obtain ⟨b, off, hab, _, _⟩ := addr_none hu
          have hae := hab (by simp)
          have hbl : b < W.heap.size := by
            have := World.block_lt_of_cell? W _ hu
            rw [hae] at this; simpa [Addr.add] using this
          have hU : ∀ i j : Nat, ∃ u, ∀ r f, rows[i]? = some r → r[j]? = some f → W.cell? ⟨b, off + (i * sz + j), none⟩ = some u ∧ u.oneCell' = true ∧ FRep W (old W) u f := fun i j => by
            cases hi : rows[i]? with
            | none => exact ⟨undef, fun _ _ h => by cases h⟩
            | some r =>
              cases hj : r[j]? with
              | none => exact ⟨undef, fun r' f h1 h2 => by cases h1; rw [hj] at h2; cases h2⟩
              | some f =>
                obtain ⟨h1, h2⟩ := hget i r hi
                obtain ⟨u, k1, k2, k3⟩ := (hspec i h1).2.2 j f (by rw [← h2]; exact hj)
                rw [hae, add_none] at k1
                exact ⟨u, fun r' f' h1 h2 => by cases h1; rw [hj] at h2; cases h2; exact ⟨k1, k2, k3⟩⟩
          have hU' : ∃ U : Nat → Nat → Value, ∀ i j r f, rows[i]? = some r → r[j]? = some f → W.cell? ⟨b, off + (i * sz + j), none⟩ = some (U i j) ∧ (U i j).oneCell' = true ∧ FRep W (old W) (U i j) f :=
            ⟨fun i j => Classical.choose (hU i j), fun i j r f h1 h2 => Classical.choose_spec (hU i j) r f h1 h2⟩
          obtain ⟨U, hU⟩ := hU'
          rw [hae, ← hrl]
          refine .vals b off cap sz rows U hbl (by omega) (fun r hr => ?_) (fun i j r f h1 h2 => ⟨(hU i j r f h1 h2).1, (hU i j r f h1 h2).2.1⟩) (fun i j r f h1 h2 => (hU i j r f h1 h2).2.2)
          obtain ⟨i, hi, he2⟩ := List.getElem_of_mem hr
          obtain ⟨h1, h2⟩ := hget i r (by simp [hi, he2])
          rw [h2]; exact (hspec i h1).2.1

/-- fields side by side -/
def CatR : List (List FV → Prop) → List FV → Prop
  | [], fs => fs = []
  | R :: Rs, fs => ∃ a b, fs = a ++ b ∧ R a ∧ CatR Rs b
/-- the fields lie side by side from k to n -/
def sideBy (P : Program) : List Field → Nat → Nat → Bool
  | [], k, n => k == n
  | f :: r, k, n => f.offset == k && sideBy P r (k + P.cellsOf f.type) n
inductive RdCs (enc : TypeId × Value → H) (P : Program) (W : World) : List Field → List (List FV → Prop) → Prop where
  | nil : RdCs enc P W [] []
  | cons (f : Field) (fs : List Field) (R : List FV → Prop) (Rs : List (List FV → Prop)) : RdC enc P W f.type R → RdCs enc P W fs Rs → RdCs enc P W (f :: fs) (R :: Rs)

theorem rdc_struct {t : TypeId} {fs : Array Field} {Rs : List (List FV → Prop)} (hd : P.underlying t = some (.struct fs)) (hs : sideBy P fs.toList 0 (P.cellsOf t) = true) (hR : RdCs enc P W fs.toList Rs) : RdC enc P W t (CatR Rs) := by
  intro fuel cs x hx
  obtain ⟨xs, n, _, _, hcl, hxl, hf⟩ := DataW.trod_struct hd hx
  have key : ∀ (l : List Field) (Rs : List (List FV → Prop)) (k q : Nat), RdCs enc P W l Rs → sideBy P l k (P.cellsOf t) = true → (∀ i f, l[i]? = some f → fs[q + i]? = some f) →
      ∃ out, CatR Rs out ∧ out.length = (cs.drop k).length ∧ ∀ (i : Nat) (c : Value) (f : FV), (cs.drop k)[i]? = some c → out[i]? = some f → FRep W (old W) c f ∧ c.oneCell' = true := by
    intro l
    induction l with
    | nil =>
      intro Rs k q hR hsb _
      cases hR
      simp only [sideBy, beq_iff_eq] at hsb
      refine ⟨[], rfl, by simp; omega, fun i c f hc hf => by simp at hf⟩
    | cons f l ih =>
      intro Rs k q hR hsb hq
      cases hR with
      | cons _ _ R Rs' h1 h2 =>
        simp only [sideBy, Bool.and_eq_true, beq_iff_eq] at hsb
        obtain ⟨rfl, hsb⟩ := hsb
        have hfq := hq 0 f rfl
        rw [Nat.add_zero] at hfq
        have hread := hf q f hfq
        have hqx : q < xs.length := by rw [hxl]; exact (Array.getElem?_eq_some_iff.1 hfq).1
        rw [List.getElem?_eq_getElem hqx] at hread
        obtain ⟨a, a1, a2, a3⟩ := h1 n _ _ hread
        obtain ⟨b, b1, b2, b3⟩ := ih Rs' (f.offset + P.cellsOf f.type) (q + 1) h2 hsb (fun i g hg => by
          have := hq (i + 1) g (by simpa using hg)
          rwa [show q + 1 + i = q + (i + 1) by omega])
        -- the piece has the field's size
        have hle : ∀ (l : List Field) (k : Nat), sideBy P l k (P.cellsOf t) = true → k ≤ P.cellsOf t := by
          intro l
          induction l with
          | nil => intro k h; simp only [sideBy, beq_iff_eq] at h; omega
          | cons g l ih => intro k h; simp only [sideBy, Bool.and_eq_true, beq_iff_eq] at h; have := ih _ h.2; omega
        have hle' := hle l _ hsb
        have hal : a.length = P.cellsOf f.type := by rw [a2, List.length_take, List.length_drop]; omega
        refine ⟨a ++ b, ⟨a, b, rfl, a1, b1⟩, ?_, fun i c g hc hg => ?_⟩
        · rw [List.length_append, hal, b2, List.length_drop, List.length_drop]; omega
        · rw [List.getElem?_append] at hg
          split at hg
          · rename_i hlt
            refine a3 i c g ?_ hg
            rw [List.getElem?_take, if_pos (by omega)]; exact hc
          · rename_i hlt
            refine b3 (i - a.length) c g ?_ hg
            rw [List.getElem?_drop] at hc ⊢
            rw [← hc]; congr 1; omega
  have := key fs.toList Rs 0 0 hR hs (fun i f h => by simpa using h)
  simpa using this

/-- an argument of one cell -/
theorem arg_one {t : TypeId} {R : List FV → Prop} {r : Reach} {b0 : Nat} {v : Value} {d : DataW H} {ps : List MemPlace} (h : RdC enc P W t R) (hna : TyA P t false) (hval : Value.okWide P W r b0 t v) (hd : DataW.Trod enc P W 0 (fun _ => true) true t v d ps) (hnagg : ∀ cs, v ≠ .agg cs) (hone : v.cells = #[v]) :
    ∃ f, R [f] ∧ FRep W (old W) v f := by
  obtain ⟨fuel, hf⟩ := hd
  rw [hone] at hf
  obtain ⟨fs, h1, h2, h3⟩ := h fuel _ _ hf
  match fs, h1, h2, h3 with
  | [f], h1, _, h3 => exact ⟨f, h1, (h3 0 v f rfl rfl).1⟩

theorem okWide_cell {t : TypeId} {r : Reach} {b0 : Nat} {v : Value} {d : TypeDesc} (hd : P.underlying t = some d) (hk : (match d with | .int _ => true | .bool => true | .string => true | .slice _ => true | .map _ _ => true | .pointer _ => true | _ => false) = true) (hval : Value.okWide P W r b0 t v) : v.cells = #[v] := by
  cases d <;> simp at hk <;> simp only [Value.okWide, hd, Cell.okWide] at hval <;> cases v <;> first | rfl | (simp [Cell.ok, hd] at hval)

/-- an argument that is one cell: a number, a bool, a string, a slice -/
theorem arg_cell {t : TypeId} {R : List FV → Prop} {r : Reach} {b0 : Nat} {v : Value} {d : DataW H} {ps : List MemPlace} {ds : TypeDesc} (h : RdC enc P W t R) (hd0 : P.underlying t = some ds) (hk : (match ds with | .int _ => true | .bool => true | .string => true | .slice _ => true | .map _ _ => true | .pointer _ => true | _ => false) = true) (hval : Value.okWide P W r b0 t v) (hd : DataW.Trod enc P W 0 (fun _ => true) true t v d ps) :
    ∃ f, R [f] ∧ FRep W (old W) v f := by
  have hone := okWide_cell hd0 hk hval
  obtain ⟨fuel, hf⟩ := hd
  rw [hone] at hf
  obtain ⟨fs, h1, h2, h3⟩ := h fuel _ _ hf
  match fs, h1, h2, h3 with
  | [f], h1, _, h3 => exact ⟨f, h1, (h3 0 v f rfl rfl).1⟩
/-- an argument that is a struct -/
theorem arg_struct {t : TypeId} {R : List FV → Prop} {r : Reach} {b0 : Nat} {v : Value} {d : DataW H} {ps : List MemPlace} {fl : Array Field} (h : RdC enc P W t R) (hd0 : P.underlying t = some (.struct fl)) (hval : Value.okWide P W r b0 t v) (hd : DataW.Trod enc P W 0 (fun _ => true) true t v d ps) :
    ∃ fs, R fs ∧ FRep W (old W) v (.agg fs) := by
  simp only [Value.okWide, hd0] at hval
  obtain ⟨cs, rfl, _⟩ := hval
  obtain ⟨fuel, hf⟩ := hd
  obtain ⟨fs, h1, h2, h3⟩ := h fuel _ _ hf
  refine ⟨fs, h1, .agg cs fs (by simpa [Value.cells] using h2.symm) (fun i c f hc hf => (h3 i c f (by simpa [Value.cells] using hc) hf).1) (fun i c hc => ?_)⟩
  have hi : i < fs.length := by rw [h2]; have := (Array.getElem?_eq_some_iff.1 hc).1; simpa [Value.cells] using this
  exact (h3 i c fs[i] (by simpa [Value.cells] using hc) (by simp [hi])).2

/-! the end -/
structure Same (W W' : World) : Prop where
  os : W'.os = W.os
  output : W'.output = W.output
  size : W.heap.size ≤ W'.heap.size
  block : ∀ b, b < W.heap.size → W'.heap[b]? = W.heap[b]?
  fz : ∀ a, a.block < W.heap.size → W'.frozen? a = W.frozen? a

theorem law_calls {k : FuncId} {F : List FV} (hM : Pure P k F (Bf true)) {vs : List Value} (hl : vs.length = F.length) (hr : ∀ (i : Nat) (v : Value) (f : FV), vs[i]? = some v → F[i]? = some f → FRep W (old W) v f) :
    Calls P k vs.toArray W fun e W' => e = .returned (.bool true) ∧ Same W W' := by
  let C : Cx := ⟨W, fun _ => False, old W, fun _ => none, 0⟩
  have hm : Mem C [] 0 C.S0 C.m0 C.w0 := ⟨⟨rfl, Nat.le_refl _⟩, rfl, rfl, fun _ _ => rfl, Nat.le_refl _, fun _ _ _ => rfl, Le.refl _ _ _, fun b h => .inl h, fun i x hx => (by cases hx), fun i o h => (by cases h), fun i o b h => (by cases h), fun i j o1 o2 b h => (by cases h), fun b hb => hb, fun _ _ => rfl⟩
  refine (hM.run C vs rfl hm (by simpa using hl) (fun i v p h1 h2 => ?_)).mono fun e W' ⟨v, S', m', he, k1, k2⟩ => ⟨by rw [he, k2.lit], k1.os.1, k1.output, k1.size, fun b hb => k1.frame b hb (fun h => h), k1.fz⟩
  rw [List.getElem?_map] at h2
  obtain ⟨f, hf, rfl⟩ := Option.map_eq_some_iff.1 h2
  exact .fz _ _ (hr i v f h1 hf)

theorem trodAll_stays (hl : laidOutB P = true) {W' : World} {sp : Nat → Bool} (hb : ∀ b, b < W.heap.size → W'.heap[b]? = W.heap[b]?) : ∀ {ts : List TypeId} {vs : List Value} {ds : List (DataW H)} {ps : List MemPlace}, (∀ t ∈ ts, P.readableRec t = true ∧ t < P.types.size) →
    DataW.TrodAll enc P W 0 (fun _ => true) true ts vs ds ps → (∀ p ∈ ps, p.block < W.heap.size) → (∀ p ∈ ps, sp p.block = true) → DataW.TrodAll enc P W' 0 sp true ts vs ds ps
  | [], [], [], _, _, h, _, _ => h
  | t :: ts, v :: vs, d :: ds, _, ht, ⟨p, q, h1, h2, e⟩, hlt, hs => by
    subst e
    refine ⟨p, q, WideElems.Trod_stays hl (ht t (by simp)).1 (ht t (by simp)).2 h1 (fun x hx => ?_) (fun x hx => hs x (List.mem_append_left _ hx)), trodAll_stays hl hb (fun t' h' => ht t' (by simp [h'])) h2 (fun x hx => hlt x (List.mem_append_right _ hx)) (fun x hx => hs x (List.mem_append_right _ hx)), rfl⟩
    have hx' := hlt x (List.mem_append_left _ hx)
    cases x with
    | cell b o => exact World.cell?_of_block (w := W) (hb b hx')
    | map b => exact hb b hx'

theorem post_of_same3 {f : Func} {s : ChangeSpec} {apart fresh handsOn again : Bool} {W W' : World} {args : Array Value} {v : Value} {ds gs : List (DataW H)} {before pa pv : List MemPlace}
    (hW : DataW.Whole enc P f.params.toList s.vars apart W args.toList ds gs before)
    (hres : ∀ (b : Nat) (sp : Nat → Bool) (hd : Bool), DataW.TrodAll enc P W' b sp hd f.resultTypes.toList (v.resultList f.resultTypes.size) (s.fn H (ds ++ gs)).results [])
    (hargs : ∀ sp : Nat → Bool, (∀ p ∈ before, sp p.block = true) → DataW.TrodAll enc P W' 0 sp true f.params.toList args.toList (s.fn H (ds ++ gs)).args pa)
    (hvars : ∀ sp : Nat → Bool, (∀ p ∈ before, sp p.block = true) → DataW.TrodVars enc P W' sp s.vars (s.fn H (ds ++ gs)).vars pv)
    (hps : before = pa ++ pv) (hk : W.keptBut W' (· ∈ before)) (hfz : ∀ a, a.block < W.heap.size → W'.frozen? a = W.frozen? a)
    (hok : ∀ (j : Nat) (t : TypeId) (r : Value), f.resultTypes[j]? = some t → (v.resultList f.resultTypes.size)[j]? = some r → Value.okWide P W' .any 0 t r) :
    s.post enc P f apart fresh handsOn again W args v W' := by
  have hold : ∀ p ∈ before, (fun b => decide (b < W.heap.size)) p.block = true := fun p hp => by simpa using hW.lt p hp
  refine ⟨ds, gs, before, [], pa, pv, hW, hres _ _ _, hargs _ hold, hvars _ hold, World.keptBut_mono (fun p hp => ⟨hp, ?_⟩) hk, fun _ => ?_⟩
  · rw [hps, List.mem_append] at hp
    exact .inr hp
  · have hlt := hW.lt
    obtain ⟨_, _, _, _, _, hz, hn⟩ := hW
    refine ⟨hok, _, _, ([] ++ pa) ++ pv, ⟨[] ++ pa, pv, trodAll_append (hargs _ (fun _ _ => rfl)) (hres _ _ _), hvars _ (fun _ _ => rfl), rfl, ?_, ?_⟩, ?_⟩
    · intro b off hp
      have hp' : MemPlace.cell b off ∈ before := by rw [hps]; simpa using hp
      rw [hfz _ (hlt _ hp')]
      exact hz b off hp'
    · intro ha
      have := hn ha
      rw [hps] at this
      simpa using this
    · intro p hp _
      rw [hps]
      simpa using hp

theorem law_end {f : Func} {s : ChangeSpec} {apart fresh handsOn again : Bool} {W' : World} {args : Array Value} {ds : List (DataW H)} {p : List MemPlace} {tb : TypeId} (hl : laidOutB P = true) (htb : P.underlying tb = some .bool) (hres : f.resultTypes = #[tb])
    (hW' : DataW.Whole enc P f.params.toList s.vars apart W args.toList ds [] p) (hA : DataW.TrodAll enc P W 0 (fun _ => true) true f.params.toList args.toList ds p) (hv : s.vars = []) (hs : s.fn H (ds ++ []) = { results := [.lit (.bool true)], args := ds })
    (hread : ∀ t ∈ f.params.toList, P.readableRec t = true ∧ t < P.types.size) (hS : Same W W') : s.post enc P f apart fresh handsOn again W args (.bool true) W' := by
  refine post_of_same3 (pa := p) (pv := []) hW' (fun _ _ _ => ?_) (fun sp hsp => ?_) (fun sp _ => ?_) (by simp) ⟨hS.os, hS.output, fun i hi => ?_⟩ hS.fz (ok_one hres rfl (okWide_bool_mk htb _))
  · rw [hs, hres]; exact trodAll_mk1 (shut_bool htb _)
  · rw [hs]; exact trodAll_stays hl hS.block hread hA (fun x hx => hW'.lt x hx) hsp
  · rw [hs, hv]; rfl
  · rw [hS.block i hi]
    cases hx : W.heap[i]? with
    | none => trivial
    | some o => cases o <;> first | exact ⟨rfl, rfl, rfl, fun _ _ => rfl⟩ | exact .inr ⟨rfl, rfl⟩ | rfl
end
end Go.RT
namespace Go.RT
open Go
set_option linter.all false
theorem slEq {id id' sz n n' : Nat} (h : id = id') (hn : n = n') : PV.sl id sz 0 n = PV.sl id' sz 0 n' := by subst h; subst hn; rfl
theorem ivEq {k : IntKind} {a b : Int} (h : a = b) : IV k a = IV k b := by subst h; rfl
theorem flEq {o : Option Ob} {sz : Nat} {rows rows' : List (List FV)} (h : o = some (.flat sz rows)) (e : rows = rows') : o = some (.flat sz rows') := by subst e; exact h
theorem rfEq {o : Option Ob} {sz : Nat} {rows rows' : List (List PV)} (h : o = some (.refs sz rows)) (e : rows = rows') : o = some (.refs sz rows') := by subst e; exact h
theorem keepsN {C : Cx} {n : Nat} (hn : C.n0 = n) (L : List Nat) (h : (L.take n == List.range n) = true) : keeps C L := by
  have h := eq_of_beq h
  intro i hi
  rw [hn] at hi
  have hl : n ≤ L.length := by
    have := congrArg List.length h
    simp at this; omega
  refine ⟨by omega, ?_⟩
  have h2 : (L.take n)[i]? = some i := by rw [h]; simp [hi]
  rw [List.getElem?_take_of_lt hi] at h2
  unfold renI
  simp [h2]
theorem maxC (a b : Nat) : max (a:Int) (b:Int) = ((max a b : Nat):Int) := by omega
theorem minC (a b : Nat) : min (a:Int) (b:Int) = ((min a b : Nat):Int) := by omega
theorem take0 {α : Type} {rows rs : List α} {n : Nat} (h : rows = rs) (hn : n = rows.length) : (rows.drop 0).take n = rs := by subst h; subst hn; simp
/-- the object that a slot's value leads to -/
def idAt (G : Env) (t : Nat) : Nat := match look G t with
  | some (.sl id _ _ _) => id
  | some (.ptr id _ _ _) => id
  | some (.mp id) => id
  | _ => 0
/-- the objects named by the slots that lead to them -/
theorem Next.weakS {C : Cx} {N : Nat} {G G' : Env} {H H' : Hp} {nx : Nat} {K : Act → World → Prop} (ts fs : List Nat) (hnd : nodupB ((keysH H').map (renI (ts.map (idAt G)))) = true) (hk : keeps C (ts.map (idAt G))) (hG : EntG (ts.map (idAt G)) (fs.map (idAt G)) H G G') (hH : EntH (ts.map (idAt G)) (fs.map (idAt G)) H H')
    (hFH : fs.all (fun t => (hlook H (idAt G t)).isSome) = true)
    (h : Next C N G' H' ts.length K) : Next C N G H nx K := by
  refine Next.weak _ _ hnd hk hG hH (fun id hid => ?_) (by simpa using h)
  simp only [List.contains_eq_mem, decide_eq_true_eq] at hid
  obtain ⟨t, ht, rfl⟩ := List.mem_map.1 hid
  have := List.all_eq_true.1 hFH t ht
  cases hx : hlook H (idAt G t) with
  | none => simp [hx] at this
  | some o => exact ⟨o, rfl⟩
/-! side conditions, named: each is proved by its default tactic -/
theorem tG {α : Prop} (h : α := by first | exact Grd.lit _ rfl | exact Grd.opt _ _ rfl) : α := h
theorem tO {α : Prop} (h : α := by intro h; first | exact h | exact g_and h | exact g_andn h | exact g_and' h | exact g_andn' h | exact g_left h | (simp at h ⊢; first | exact h | simp [h]) | simp_all) : α := h
theorem tH {α : Prop} (h : α := by intro _; first | exact ⟨rfl, rfl⟩ | exact ⟨rfl, by assumption⟩) : α := h
theorem tR {α : Prop} (h : α := by repeat constructor) : α := h
theorem tI {α : Prop} (h : α := by first | (intro _; simp only [inr]; omega) | (intro hg; simp at hg <;> (try simp only [inr]) <;> omega)) : α := h
theorem tM {α : Prop} (h : α := by first | (intro _; (try simp only [inr]); omega) | (intro hg; simp at hg <;> (try simp only [inr]) <;> omega)) : α := h
theorem tC {α : Prop} (h : α := by first | exact CellsF.one _ rfl | exact CellsF.agg _) : α := h
theorem tP {α : Prop} (h : α := by first | exact Cells.one _ rfl | exact Cells.aggF _ _ rfl | exact Cells.agg _) : α := h
theorem tS {α : Prop} (h : α := by first | exact Sp.whole _ _ rfl | (repeat constructor)) : α := h
theorem tE {α : Prop} (h : α := by first | exact Ext.cons _ _ _ _ _ (Ext.refl _) | exact Ext.cons _ _ _ _ _ (Ext.cons _ _ _ _ _ (Ext.refl _)) | repeat (first | exact Ext.refl _ | refine Ext.cons _ _ _ _ _ ?_)) : α := h
theorem tV {α : Prop} (h : α := by first | exact RV.tmp _ _ rfl | exact RV.cell _ _ _ _ _ _ _ inferInstance inferInstance rfl rfl | exact RV.cell1 _ _ _ _ inferInstance rfl rfl) : α := h
theorem tB {α : Prop} (h : α := by first | omega | (simp only [List.length_cons, List.length_nil, List.length_map, List.length_append]; omega)) : α := h
theorem tL {α : Prop} (h : α := by first | exact trivial | rfl | decide | (intro r hr; simp at hr; subst hr; rfl)) : α := h
theorem tU {α : Prop} (h : α := by first | (simp [renP, renPs, renI]; done) | (simp [renP, renPs, renI]; omega)) : α := h
theorem tN {α : Prop} (h : α := by first | (simp; done) | (simp; omega)) : α := h
theorem tX {α : Prop} (h : α := by first | omega | (dsimp only; omega)) : α := h
theorem tD {α : Prop} (h : α := by intro _; refine ⟨rfl, ?_⟩; omega) : α := h
theorem tF {α : Prop} (h : α := by intro _; refine ⟨rfl, ?_⟩; first | rfl | assumption | simp) : α := h
theorem nK {C : Cx} {N : Nat} {G : Env} {H : Hp} {nx : Nat} {K K' : Act → World → Prop} (h : Next C N G H nx K')
    (hk : Next C N G H nx K' → Next C N G H nx K := by
      intro h
      (repeat (first | refine n_seq ?_ | refine n_block ?_ | refine n_skip ?_ | refine n_exit ?_ | refine n_ret ?_ | refine s_then ?_ | refine s_then_ret ?_ | refine s_then_exit ?_ | refine s_blk _ ?_ | refine s_blk_ret ?_ | refine s_blk_hit ?_ | refine s_blk_miss rfl ?_))
      exact h) : Next C N G H nx K := hk h
end Go.RT
/- The types and functions of the translation, as the rules ask for them. Written by tab.py. -/
namespace Go.Proofs.Ytdebjffddkgfbaa
open Go Go.RT Go.Proofs
set_option linter.unusedVariables false
theorem mixed : Try.prog.follows .mixedOrders = true := Try.checked.mixed
theorem tyn_of {P : Program} {t : TypeId} {s b : Nat} {z : Value} (h : (P.info? t).map (fun i => (i.size, i.bytes, i.zero)) = some (s, b, some z)) : TyN P t s b z := by
  obtain ⟨i, hi, he⟩ := Option.map_eq_some_iff.1 h
  simp only [Prod.mk.injEq] at he
  exact ⟨i, hi, he.1, he.2.1, he.2.2⟩
instance : TyA Try.prog 1 false := ⟨_, Try.underlying1, rfl⟩
instance : TyN Try.prog 1 1 8 (.nilFunc) := tyn_of (by kernel_rfl)
instance : TyD Try.prog 2 (.int .i64) := ⟨Try.underlying2⟩
instance : TyA Try.prog 2 false := ⟨_, Try.underlying2, rfl⟩
instance : TyN Try.prog 2 1 8 (.int .i64 0) := tyn_of (by kernel_rfl)
instance : TyD Try.prog 3 (.int .i64) := ⟨Try.underlying3⟩
instance : TyA Try.prog 3 false := ⟨_, Try.underlying3, rfl⟩
instance : TyN Try.prog 3 1 8 (.int .i64 0) := tyn_of (by kernel_rfl)
instance : TyD Try.prog 4 (.bool) := ⟨Try.underlying4⟩
instance : TyA Try.prog 4 false := ⟨_, Try.underlying4, rfl⟩
instance : TyN Try.prog 4 1 1 (.bool false) := tyn_of (by kernel_rfl)
instance : TyD Try.prog 5 (.int .u8) := ⟨Try.underlying5⟩
instance : TyA Try.prog 5 false := ⟨_, Try.underlying5, rfl⟩
instance : TyN Try.prog 5 1 1 (.int .u8 0) := tyn_of (by kernel_rfl)
instance : TyD Try.prog 9 (.string) := ⟨Try.underlying9⟩
instance : TyA Try.prog 9 false := ⟨_, Try.underlying9, rfl⟩
instance : TyN Try.prog 9 1 16 (.string ⟨#[]⟩) := tyn_of (by kernel_rfl)
instance : TyD Try.prog 12 (.int .u64) := ⟨Try.underlying12⟩
instance : TyA Try.prog 12 false := ⟨_, Try.underlying12, rfl⟩
instance : TyN Try.prog 12 1 8 (.int .u64 0) := tyn_of (by kernel_rfl)
instance : TyA Try.prog 13 true := ⟨_, Try.underlying13, rfl⟩
instance : TyN Try.prog 13 2 24 (.agg #[.string ⟨#[]⟩, .int .u64 0]) := tyn_of (by kernel_rfl)
instance : TyF Try.prog 13 0 0 9 := ⟨_, _, Try.underlying13, rfl, rfl, rfl⟩
instance : TyF Try.prog 13 1 1 12 := ⟨_, _, Try.underlying13, rfl, rfl, rfl⟩
instance : TyB Try.prog 13 [(0, 1), (1, 1)] := ⟨_, Try.underlying13, fun w => by kernel_rfl⟩
instance : TyD Try.prog 21 (.int .i32) := ⟨Try.underlying21⟩
instance : TyA Try.prog 21 false := ⟨_, Try.underlying21, rfl⟩
instance : TyN Try.prog 21 1 4 (.int .i32 0) := tyn_of (by kernel_rfl)
instance : TyD Try.prog 22 (.int .u32) := ⟨Try.underlying22⟩
instance : TyA Try.prog 22 false := ⟨_, Try.underlying22, rfl⟩
instance : TyN Try.prog 22 1 4 (.int .u32 0) := tyn_of (by kernel_rfl)
instance : TyD Try.prog 23 (.int .u32) := ⟨Try.underlying23⟩
instance : TyA Try.prog 23 false := ⟨_, Try.underlying23, rfl⟩
instance : TyN Try.prog 23 1 4 (.int .u32 0) := tyn_of (by kernel_rfl)
instance : TyD Try.prog 24 (.slice 32) := ⟨Try.underlying24⟩
instance : TyA Try.prog 24 false := ⟨_, Try.underlying24, rfl⟩
instance : TyN Try.prog 24 1 24 (.slice none 0 0) := tyn_of (by kernel_rfl)
instance : TyD Try.prog 25 (.int .i64) := ⟨Try.underlying25⟩
instance : TyA Try.prog 25 false := ⟨_, Try.underlying25, rfl⟩
instance : TyN Try.prog 25 1 8 (.int .i64 0) := tyn_of (by kernel_rfl)
instance : TyA Try.prog 27 false := ⟨_, Try.underlying27, rfl⟩
instance : TyN Try.prog 27 1 8 (.nilFunc) := tyn_of (by kernel_rfl)
instance : TyA Try.prog 28 false := ⟨_, Try.underlying28, rfl⟩
instance : TyN Try.prog 28 1 8 (.nilFunc) := tyn_of (by kernel_rfl)
instance : TyA Try.prog 29 false := ⟨_, Try.underlying29, rfl⟩
instance : TyN Try.prog 29 1 8 (.nilFunc) := tyn_of (by kernel_rfl)
instance : TyA Try.prog 30 false := ⟨_, Try.underlying30, rfl⟩
instance : TyN Try.prog 30 1 8 (.nilFunc) := tyn_of (by kernel_rfl)
instance : TyA Try.prog 31 true := ⟨_, Try.underlying31, rfl⟩
instance : TyN Try.prog 31 2 16 (.agg #[.int .u32 0, .int .i64 0]) := tyn_of (by kernel_rfl)
instance : TyF Try.prog 31 0 0 23 := ⟨_, _, Try.underlying31, rfl, rfl, rfl⟩
instance : TyF Try.prog 31 1 1 3 := ⟨_, _, Try.underlying31, rfl, rfl, rfl⟩
instance : EqS Try.prog 31 2 := ⟨by kernel_rfl, by kernel_rfl, by kernel_rfl, by kernel_rfl⟩
instance : TyB Try.prog 31 [(0, 1), (1, 1)] := ⟨_, Try.underlying31, fun w => by kernel_rfl⟩
instance : TyA Try.prog 32 true := ⟨_, Try.underlying32, rfl⟩
instance : TyN Try.prog 32 2 16 (.agg #[.int .u32 0, .int .i64 0]) := tyn_of (by kernel_rfl)
instance : TyF Try.prog 32 0 0 23 := ⟨_, _, Try.underlying32, rfl, rfl, rfl⟩
instance : TyF Try.prog 32 1 1 3 := ⟨_, _, Try.underlying32, rfl, rfl, rfl⟩
instance : EqS Try.prog 32 2 := ⟨by kernel_rfl, by kernel_rfl, by kernel_rfl, by kernel_rfl⟩
instance : TyB Try.prog 32 [(0, 1), (1, 1)] := ⟨_, Try.underlying32, fun w => by kernel_rfl⟩
instance : TyA Try.prog 34 false := ⟨_, Try.underlying34, rfl⟩
instance : TyN Try.prog 34 1 8 (.nilFunc) := tyn_of (by kernel_rfl)
instance : TyA Try.prog 36 false := ⟨_, Try.underlying36, rfl⟩
instance : TyN Try.prog 36 1 8 (.nilFunc) := tyn_of (by kernel_rfl)
instance : TyA Try.prog 37 false := ⟨_, Try.underlying37, rfl⟩
instance : TyN Try.prog 37 1 8 (.nilFunc) := tyn_of (by kernel_rfl)
instance : TyA Try.prog 38 false := ⟨_, Try.underlying38, rfl⟩
instance : TyN Try.prog 38 1 8 (.nilFunc) := tyn_of (by kernel_rfl)
instance : TyA Try.prog 39 false := ⟨_, Try.underlying39, rfl⟩
instance : TyN Try.prog 39 1 8 (.nilFunc) := tyn_of (by kernel_rfl)
instance : TyA Try.prog 40 false := ⟨_, Try.underlying40, rfl⟩
instance : TyN Try.prog 40 1 8 (.nilFunc) := tyn_of (by kernel_rfl)
instance : TyA Try.prog 41 false := ⟨_, Try.underlying41, rfl⟩
instance : TyN Try.prog 41 1 8 (.nilFunc) := tyn_of (by kernel_rfl)
instance : TyA Try.prog 42 false := ⟨_, Try.underlying42, rfl⟩
instance : TyN Try.prog 42 1 8 (.nilFunc) := tyn_of (by kernel_rfl)
instance : TyA Try.prog 43 false := ⟨_, Try.underlying43, rfl⟩
instance : TyN Try.prog 43 1 8 (.nilFunc) := tyn_of (by kernel_rfl)
instance : TyD Try.prog 44 (.int .u64) := ⟨Try.underlying44⟩
instance : TyA Try.prog 44 false := ⟨_, Try.underlying44, rfl⟩
instance : TyN Try.prog 44 1 8 (.int .u64 0) := tyn_of (by kernel_rfl)
instance : TyA Try.prog 45 false := ⟨_, Try.underlying45, rfl⟩
instance : TyN Try.prog 45 1 8 (.nilFunc) := tyn_of (by kernel_rfl)
instance : TyA Try.prog 46 false := ⟨_, Try.underlying46, rfl⟩
instance : TyN Try.prog 46 1 8 (.nilFunc) := tyn_of (by kernel_rfl)
instance : TyA Try.prog 47 true := ⟨_, Try.underlying47, rfl⟩
instance : TyN Try.prog 47 2 16 (.agg #[.int .u64 0, .int .u64 0]) := tyn_of (by kernel_rfl)
instance : TyF Try.prog 47 0 0 44 := ⟨_, _, Try.underlying47, rfl, rfl, rfl⟩
instance : TyF Try.prog 47 1 1 44 := ⟨_, _, Try.underlying47, rfl, rfl, rfl⟩
instance : EqS Try.prog 47 2 := ⟨by kernel_rfl, by kernel_rfl, by kernel_rfl, by kernel_rfl⟩
instance : TyB Try.prog 47 [(0, 1), (1, 1)] := ⟨_, Try.underlying47, fun w => by kernel_rfl⟩
instance : TyA Try.prog 48 true := ⟨_, Try.underlying48, rfl⟩
instance : TyN Try.prog 48 2 16 (.agg #[.int .u64 0, .int .u64 0]) := tyn_of (by kernel_rfl)
instance : TyF Try.prog 48 0 0 44 := ⟨_, _, Try.underlying48, rfl, rfl, rfl⟩
instance : TyF Try.prog 48 1 1 44 := ⟨_, _, Try.underlying48, rfl, rfl, rfl⟩
instance : EqS Try.prog 48 2 := ⟨by kernel_rfl, by kernel_rfl, by kernel_rfl, by kernel_rfl⟩
instance : TyB Try.prog 48 [(0, 1), (1, 1)] := ⟨_, Try.underlying48, fun w => by kernel_rfl⟩
instance : TyD Try.prog 49 (.slice 48) := ⟨Try.underlying49⟩
instance : TyA Try.prog 49 false := ⟨_, Try.underlying49, rfl⟩
instance : TyN Try.prog 49 1 24 (.slice none 0 0) := tyn_of (by kernel_rfl)
instance : TyA Try.prog 50 false := ⟨_, Try.underlying50, rfl⟩
instance : TyN Try.prog 50 1 8 (.nilFunc) := tyn_of (by kernel_rfl)
instance : TyA Try.prog 51 true := ⟨_, Try.underlying51, rfl⟩
instance : TyN Try.prog 51 2 16 (.agg #[.int .u64 0, .int .u64 0]) := tyn_of (by kernel_rfl)
instance : TyF Try.prog 51 0 0 44 := ⟨_, _, Try.underlying51, rfl, rfl, rfl⟩
instance : TyF Try.prog 51 1 1 44 := ⟨_, _, Try.underlying51, rfl, rfl, rfl⟩
instance : EqS Try.prog 51 2 := ⟨by kernel_rfl, by kernel_rfl, by kernel_rfl, by kernel_rfl⟩
instance : TyB Try.prog 51 [(0, 1), (1, 1)] := ⟨_, Try.underlying51, fun w => by kernel_rfl⟩
instance : TyA Try.prog 52 true := ⟨_, Try.underlying52, rfl⟩
instance : TyN Try.prog 52 2 16 (.agg #[.int .u64 0, .int .u64 0]) := tyn_of (by kernel_rfl)
instance : TyF Try.prog 52 0 0 44 := ⟨_, _, Try.underlying52, rfl, rfl, rfl⟩
instance : TyF Try.prog 52 1 1 44 := ⟨_, _, Try.underlying52, rfl, rfl, rfl⟩
instance : EqS Try.prog 52 2 := ⟨by kernel_rfl, by kernel_rfl, by kernel_rfl, by kernel_rfl⟩
instance : TyB Try.prog 52 [(0, 1), (1, 1)] := ⟨_, Try.underlying52, fun w => by kernel_rfl⟩
instance : TyD Try.prog 53 (.slice 52) := ⟨Try.underlying53⟩
instance : TyA Try.prog 53 false := ⟨_, Try.underlying53, rfl⟩
instance : TyN Try.prog 53 1 24 (.slice none 0 0) := tyn_of (by kernel_rfl)
instance : TyA Try.prog 54 false := ⟨_, Try.underlying54, rfl⟩
instance : TyN Try.prog 54 1 8 (.nilFunc) := tyn_of (by kernel_rfl)
instance : TyA Try.prog 55 false := ⟨_, Try.underlying55, rfl⟩
instance : TyN Try.prog 55 1 8 (.nilFunc) := tyn_of (by kernel_rfl)
instance : TyA Try.prog 56 false := ⟨_, Try.underlying56, rfl⟩
instance : TyN Try.prog 56 1 8 (.nilFunc) := tyn_of (by kernel_rfl)
instance : TyD Try.prog 57 (.int .u64) := ⟨Try.underlying57⟩
instance : TyA Try.prog 57 false := ⟨_, Try.underlying57, rfl⟩
instance : TyN Try.prog 57 1 8 (.int .u64 0) := tyn_of (by kernel_rfl)
instance : TyA Try.prog 58 false := ⟨_, Try.underlying58, rfl⟩
instance : TyN Try.prog 58 1 8 (.nilFunc) := tyn_of (by kernel_rfl)
instance : TyA Try.prog 59 false := ⟨_, Try.underlying59, rfl⟩
instance : TyN Try.prog 59 1 8 (.nilFunc) := tyn_of (by kernel_rfl)
instance : TyA Try.prog 60 false := ⟨_, Try.underlying60, rfl⟩
instance : TyN Try.prog 60 1 8 (.nilFunc) := tyn_of (by kernel_rfl)
instance : TyA Try.prog 61 false := ⟨_, Try.underlying61, rfl⟩
instance : TyN Try.prog 61 1 8 (.nilFunc) := tyn_of (by kernel_rfl)
instance : TyA Try.prog 62 false := ⟨_, Try.underlying62, rfl⟩
instance : TyN Try.prog 62 1 8 (.nilFunc) := tyn_of (by kernel_rfl)
instance : TyA Try.prog 63 false := ⟨_, Try.underlying63, rfl⟩
instance : TyN Try.prog 63 1 8 (.nilFunc) := tyn_of (by kernel_rfl)
instance : TyA Try.prog 64 false := ⟨_, Try.underlying64, rfl⟩
instance : TyN Try.prog 64 1 8 (.nilFunc) := tyn_of (by kernel_rfl)
instance : TyA Try.prog 65 false := ⟨_, Try.underlying65, rfl⟩
instance : TyN Try.prog 65 1 8 (.nilFunc) := tyn_of (by kernel_rfl)
instance : TyA Try.prog 66 false := ⟨_, Try.underlying66, rfl⟩
instance : TyN Try.prog 66 1 8 (.nilFunc) := tyn_of (by kernel_rfl)
instance : TyA Try.prog 67 false := ⟨_, Try.underlying67, rfl⟩
instance : TyN Try.prog 67 1 8 (.nilFunc) := tyn_of (by kernel_rfl)
instance : TyA Try.prog 68 false := ⟨_, Try.underlying68, rfl⟩
instance : TyN Try.prog 68 1 8 (.nilFunc) := tyn_of (by kernel_rfl)
instance : TyA Try.prog 69 false := ⟨_, Try.underlying69, rfl⟩
instance : TyN Try.prog 69 1 8 (.nilFunc) := tyn_of (by kernel_rfl)
instance : TyA Try.prog 70 false := ⟨_, Try.underlying70, rfl⟩
instance : TyN Try.prog 70 1 8 (.nilFunc) := tyn_of (by kernel_rfl)
instance : TyA Try.prog 71 false := ⟨_, Try.underlying71, rfl⟩
instance : TyN Try.prog 71 1 8 (.nilFunc) := tyn_of (by kernel_rfl)
instance : TyA Try.prog 72 false := ⟨_, Try.underlying72, rfl⟩
instance : TyN Try.prog 72 1 8 (.nilFunc) := tyn_of (by kernel_rfl)
instance : TyA Try.prog 73 false := ⟨_, Try.underlying73, rfl⟩
instance : TyN Try.prog 73 1 8 (.nilFunc) := tyn_of (by kernel_rfl)
instance : TyA Try.prog 74 false := ⟨_, Try.underlying74, rfl⟩
instance : TyN Try.prog 74 1 8 (.nilFunc) := tyn_of (by kernel_rfl)
instance : TyA Try.prog 75 false := ⟨_, Try.underlying75, rfl⟩
instance : TyN Try.prog 75 1 8 (.nilFunc) := tyn_of (by kernel_rfl)
instance : TyA Try.prog 76 false := ⟨_, Try.underlying76, rfl⟩
instance : TyN Try.prog 76 1 8 (.nilFunc) := tyn_of (by kernel_rfl)
instance : TyA Try.prog 77 false := ⟨_, Try.underlying77, rfl⟩
instance : TyN Try.prog 77 1 8 (.nilFunc) := tyn_of (by kernel_rfl)
instance : TyA Try.prog 78 false := ⟨_, Try.underlying78, rfl⟩
instance : TyN Try.prog 78 1 8 (.nilFunc) := tyn_of (by kernel_rfl)
instance : TyD Try.prog 79 (.int .i64) := ⟨Try.underlying79⟩
instance : TyA Try.prog 79 false := ⟨_, Try.underlying79, rfl⟩
instance : TyN Try.prog 79 1 8 (.int .i64 0) := tyn_of (by kernel_rfl)
instance : TyA Try.prog 81 false := ⟨_, Try.underlying81, rfl⟩
instance : TyN Try.prog 81 1 8 (.nilFunc) := tyn_of (by kernel_rfl)
instance : TyA Try.prog 82 false := ⟨_, Try.underlying82, rfl⟩
instance : TyN Try.prog 82 1 8 (.nilFunc) := tyn_of (by kernel_rfl)
instance : TyA Try.prog 83 false := ⟨_, Try.underlying83, rfl⟩
instance : TyN Try.prog 83 1 8 (.nilFunc) := tyn_of (by kernel_rfl)
instance : TyA Try.prog 85 false := ⟨_, Try.underlying85, rfl⟩
instance : TyN Try.prog 85 1 8 (.nilFunc) := tyn_of (by kernel_rfl)
instance : TyA Try.prog 86 false := ⟨_, Try.underlying86, rfl⟩
instance : TyN Try.prog 86 1 8 (.nilFunc) := tyn_of (by kernel_rfl)
instance : TyA Try.prog 87 false := ⟨_, Try.underlying87, rfl⟩
instance : TyN Try.prog 87 1 8 (.nilFunc) := tyn_of (by kernel_rfl)
instance : TyD Try.prog 88 (.int .u64) := ⟨Try.underlying88⟩
instance : TyA Try.prog 88 false := ⟨_, Try.underlying88, rfl⟩
instance : TyN Try.prog 88 1 8 (.int .u64 0) := tyn_of (by kernel_rfl)
instance : TyA Try.prog 89 false := ⟨_, Try.underlying89, rfl⟩
instance : TyN Try.prog 89 1 8 (.nilFunc) := tyn_of (by kernel_rfl)
instance : TyA Try.prog 90 false := ⟨_, Try.underlying90, rfl⟩
instance : TyN Try.prog 90 1 8 (.nilFunc) := tyn_of (by kernel_rfl)
instance : TyA Try.prog 91 false := ⟨_, Try.underlying91, rfl⟩
instance : TyN Try.prog 91 1 8 (.nilFunc) := tyn_of (by kernel_rfl)
instance : TyD Try.prog 92 (.pointer 3) := ⟨Try.underlying92⟩
instance : TyA Try.prog 92 false := ⟨_, Try.underlying92, rfl⟩
instance : TyN Try.prog 92 1 8 (.pointer none) := tyn_of (by kernel_rfl)
instance : TyA Try.prog 93 false := ⟨_, Try.underlying93, rfl⟩
instance : TyN Try.prog 93 1 8 (.nilFunc) := tyn_of (by kernel_rfl)
instance : TyD Try.prog 94 (.pointer 88) := ⟨Try.underlying94⟩
instance : TyA Try.prog 94 false := ⟨_, Try.underlying94, rfl⟩
instance : TyN Try.prog 94 1 8 (.pointer none) := tyn_of (by kernel_rfl)
instance : TyA Try.prog 96 false := ⟨_, Try.underlying96, rfl⟩
instance : TyN Try.prog 96 1 8 (.nilFunc) := tyn_of (by kernel_rfl)
instance : TyA Try.prog 97 false := ⟨_, Try.underlying97, rfl⟩
instance : TyN Try.prog 97 1 8 (.nilFunc) := tyn_of (by kernel_rfl)
instance : TyA Try.prog 103 false := ⟨_, Try.underlying103, rfl⟩
instance : TyN Try.prog 103 1 8 (.nilFunc) := tyn_of (by kernel_rfl)
instance : TyA Try.prog 106 false := ⟨_, Try.underlying106, rfl⟩
instance : TyN Try.prog 106 1 8 (.nilFunc) := tyn_of (by kernel_rfl)
instance : TyD Try.prog 107 (.pointer 5) := ⟨Try.underlying107⟩
instance : TyA Try.prog 107 false := ⟨_, Try.underlying107, rfl⟩
instance : TyN Try.prog 107 1 8 (.pointer none) := tyn_of (by kernel_rfl)
instance : FnB Try.prog 2 := ⟨_, Try.func2, by decide +kernel, rfl⟩
instance : FnB Try.prog 3 := ⟨_, Try.func3, by decide +kernel, rfl⟩
instance : FnB Try.prog 4 := ⟨_, Try.func4, by decide +kernel, rfl⟩
instance : FnB Try.prog 5 := ⟨_, Try.func5, by decide +kernel, rfl⟩
instance : FnB Try.prog 6 := ⟨_, Try.func6, by decide +kernel, rfl⟩
instance : FnB Try.prog 7 := ⟨_, Try.func7, by decide +kernel, rfl⟩
instance : FnB Try.prog 8 := ⟨_, Try.func8, by decide +kernel, rfl⟩
instance : FnB Try.prog 9 := ⟨_, Try.func9, by decide +kernel, rfl⟩
instance : FnB Try.prog 10 := ⟨_, Try.func10, by decide +kernel, rfl⟩
instance : FnB Try.prog 11 := ⟨_, Try.func11, by decide +kernel, rfl⟩
instance : FnB Try.prog 12 := ⟨_, Try.func12, by decide +kernel, rfl⟩
instance : FnB Try.prog 13 := ⟨_, Try.func13, by decide +kernel, rfl⟩
instance : FnB Try.prog 14 := ⟨_, Try.func14, by decide +kernel, rfl⟩
instance : FnB Try.prog 15 := ⟨_, Try.func15, by decide +kernel, rfl⟩
instance : FnB Try.prog 16 := ⟨_, Try.func16, by decide +kernel, rfl⟩
instance : FnB Try.prog 17 := ⟨_, Try.func17, by decide +kernel, rfl⟩
instance : FnB Try.prog 18 := ⟨_, Try.func18, by decide +kernel, rfl⟩
instance : FnB Try.prog 19 := ⟨_, Try.func19, by decide +kernel, rfl⟩
instance : FnB Try.prog 20 := ⟨_, Try.func20, by decide +kernel, rfl⟩
instance : FnB Try.prog 21 := ⟨_, Try.func21, by decide +kernel, rfl⟩
instance : FnB Try.prog 22 := ⟨_, Try.func22, by decide +kernel, rfl⟩
instance : FnB Try.prog 23 := ⟨_, Try.func23, by decide +kernel, rfl⟩
instance : FnB Try.prog 24 := ⟨_, Try.func24, by decide +kernel, rfl⟩
instance : FnB Try.prog 25 := ⟨_, Try.func25, by decide +kernel, rfl⟩
instance : FnB Try.prog 26 := ⟨_, Try.func26, by decide +kernel, rfl⟩
instance : FnB Try.prog 27 := ⟨_, Try.func27, by decide +kernel, rfl⟩
instance : FnB Try.prog 28 := ⟨_, Try.func28, by decide +kernel, rfl⟩
instance : FnB Try.prog 29 := ⟨_, Try.func29, by decide +kernel, rfl⟩
instance : FnB Try.prog 30 := ⟨_, Try.func30, by decide +kernel, rfl⟩
instance : FnB Try.prog 31 := ⟨_, Try.func31, by decide +kernel, rfl⟩
instance : FnB Try.prog 32 := ⟨_, Try.func32, by decide +kernel, rfl⟩
instance : FnB Try.prog 33 := ⟨_, Try.func33, by decide +kernel, rfl⟩
instance : FnB Try.prog 34 := ⟨_, Try.func34, by decide +kernel, rfl⟩
instance : FnB Try.prog 35 := ⟨_, Try.func35, by decide +kernel, rfl⟩
instance : FnB Try.prog 36 := ⟨_, Try.func36, by decide +kernel, rfl⟩
instance : FnB Try.prog 37 := ⟨_, Try.func37, by decide +kernel, rfl⟩
instance : FnB Try.prog 38 := ⟨_, Try.func38, by decide +kernel, rfl⟩
instance : FnB Try.prog 39 := ⟨_, Try.func39, by decide +kernel, rfl⟩
instance : FnB Try.prog 40 := ⟨_, Try.func40, by decide +kernel, rfl⟩
instance : FnB Try.prog 41 := ⟨_, Try.func41, by decide +kernel, rfl⟩
instance : FnB Try.prog 42 := ⟨_, Try.func42, by decide +kernel, rfl⟩
instance : FnB Try.prog 43 := ⟨_, Try.func43, by decide +kernel, rfl⟩
instance : FnB Try.prog 44 := ⟨_, Try.func44, by decide +kernel, rfl⟩
instance : FnB Try.prog 45 := ⟨_, Try.func45, by decide +kernel, rfl⟩
instance : FnB Try.prog 46 := ⟨_, Try.func46, by decide +kernel, rfl⟩
instance : FnB Try.prog 47 := ⟨_, Try.func47, by decide +kernel, rfl⟩
instance : FnB Try.prog 48 := ⟨_, Try.func48, by decide +kernel, rfl⟩
instance : FnB Try.prog 49 := ⟨_, Try.func49, by decide +kernel, rfl⟩
instance : FnB Try.prog 50 := ⟨_, Try.func50, by decide +kernel, rfl⟩
instance : FnB Try.prog 51 := ⟨_, Try.func51, by decide +kernel, rfl⟩
instance : FnB Try.prog 52 := ⟨_, Try.func52, by decide +kernel, rfl⟩
instance : FnB Try.prog 53 := ⟨_, Try.func53, by decide +kernel, rfl⟩
instance : FnB Try.prog 54 := ⟨_, Try.func54, by decide +kernel, rfl⟩
instance : FnB Try.prog 55 := ⟨_, Try.func55, by decide +kernel, rfl⟩
instance : FnB Try.prog 56 := ⟨_, Try.func56, by decide +kernel, rfl⟩
instance : FnB Try.prog 57 := ⟨_, Try.func57, by decide +kernel, rfl⟩
instance : FnB Try.prog 58 := ⟨_, Try.func58, by decide +kernel, rfl⟩
instance : FnB Try.prog 59 := ⟨_, Try.func59, by decide +kernel, rfl⟩
instance : FnB Try.prog 60 := ⟨_, Try.func60, by decide +kernel, rfl⟩
instance : FnB Try.prog 61 := ⟨_, Try.func61, by decide +kernel, rfl⟩
instance : FnB Try.prog 62 := ⟨_, Try.func62, by decide +kernel, rfl⟩
instance : FnB Try.prog 63 := ⟨_, Try.func63, by decide +kernel, rfl⟩
instance : FnB Try.prog 64 := ⟨_, Try.func64, by decide +kernel, rfl⟩
instance : FnB Try.prog 65 := ⟨_, Try.func65, by decide +kernel, rfl⟩
instance : FnB Try.prog 66 := ⟨_, Try.func66, by decide +kernel, rfl⟩
instance : FnB Try.prog 67 := ⟨_, Try.func67, by decide +kernel, rfl⟩
instance : FnB Try.prog 68 := ⟨_, Try.func68, by decide +kernel, rfl⟩
instance : FnB Try.prog 69 := ⟨_, Try.func69, by decide +kernel, rfl⟩
instance : FnB Try.prog 70 := ⟨_, Try.func70, by decide +kernel, rfl⟩
instance : FnB Try.prog 71 := ⟨_, Try.func71, by decide +kernel, rfl⟩
instance : FnB Try.prog 72 := ⟨_, Try.func72, by decide +kernel, rfl⟩
instance : FnB Try.prog 73 := ⟨_, Try.func73, by decide +kernel, rfl⟩
instance : FnB Try.prog 74 := ⟨_, Try.func74, by decide +kernel, rfl⟩
instance : FnB Try.prog 75 := ⟨_, Try.func75, by decide +kernel, rfl⟩
instance : FnB Try.prog 76 := ⟨_, Try.func76, by decide +kernel, rfl⟩
instance : FnB Try.prog 77 := ⟨_, Try.func77, by decide +kernel, rfl⟩
instance : FnB Try.prog 78 := ⟨_, Try.func78, by decide +kernel, rfl⟩
instance : FnB Try.prog 79 := ⟨_, Try.func79, by decide +kernel, rfl⟩
instance : FnB Try.prog 80 := ⟨_, Try.func80, by decide +kernel, rfl⟩
instance : FnB Try.prog 81 := ⟨_, Try.func81, by decide +kernel, rfl⟩
instance : FnB Try.prog 82 := ⟨_, Try.func82, by decide +kernel, rfl⟩
instance : FnB Try.prog 83 := ⟨_, Try.func83, by decide +kernel, rfl⟩
instance : FnB Try.prog 84 := ⟨_, Try.func84, by decide +kernel, rfl⟩
instance : FnB Try.prog 85 := ⟨_, Try.func85, by decide +kernel, rfl⟩
end Go.Proofs.Ytdebjffddkgfbaa
/- Plain facts on 32-bit prefixes. No program in sight. -/
namespace Go.Pl

def clampN (n : Int) : Nat := (min (max n 0) 32).toNat
theorem clampN_le (n : Int) : clampN n ≤ 32 := by unfold clampN; omega
theorem clampN_int (n : Int) : min (max n 0) 32 = (clampN n : Int) := by unfold clampN; omega
theorem clampN_of {n : Int} (h0 : 0 ≤ n) (h1 : n ≤ 32) : (clampN n : Int) = n := by unfold clampN; omega

def keepN (x c : Nat) : Nat := x / 2 ^ (32 - c) * 2 ^ (32 - c)

theorem land_high (x k : Nat) (hk : k ≤ 32) (hx : x < 2 ^ 32) : x &&& (2 ^ 32 - 2 ^ k) = x / 2 ^ k * 2 ^ k := by
  apply Nat.eq_of_testBit_eq
  intro i
  have e : 2 ^ 32 - 2 ^ k = (2 ^ (32 - k) - 1) <<< k := by
    rw [Nat.shiftLeft_eq, Nat.sub_mul, ← Nat.pow_add, Nat.one_mul, Nat.sub_add_cancel hk]
  rw [Nat.testBit_and, e, Nat.testBit_shiftLeft, Nat.testBit_two_pow_sub_one, ← Nat.shiftRight_eq_div_pow, ← Nat.shiftLeft_eq, Nat.testBit_shiftLeft, Nat.testBit_shiftRight]
  by_cases h : k ≤ i
  · by_cases h2 : i < 32
    · have : i - k < 32 - k := by omega
      simp [h, this, show k + (i - k) = i by omega]
    · have hb : x.testBit i = false := Nat.testBit_lt_two_pow (Nat.lt_of_lt_of_le hx (Nat.pow_le_pow_right (by omega) (by omega)))
      simp [h, hb, show k + (i - k) = i by omega]
  · simp [h]
theorem keepN_le (x c : Nat) : keepN x c ≤ x := Nat.div_mul_le_self _ _
theorem lor_low (q k r : Nat) (hr : r < 2 ^ k) : (q * 2 ^ k) ||| r = q * 2 ^ k + r := by
  rw [← Nat.shiftLeft_eq]; exact (Nat.shiftLeft_add_eq_or_of_lt hr q).symm
theorem mask_wrap (k : Nat) (hk : k ≤ 32) : (4294967295 * 2 ^ k) % 4294967296 = 4294967296 - 2 ^ k := by
  have h1 : 2 ^ k ≤ 2 ^ 32 := Nat.pow_le_pow_right (by omega) hk
  have h2 : 0 < 2 ^ k := Nat.two_pow_pos k
  have e : 4294967295 * 2 ^ k = (2 ^ k - 1) * 4294967296 + (4294967296 - 2 ^ k) := by
    have : (2 ^ k - 1) * 4294967296 = 2 ^ k * 4294967296 - 4294967296 := by rw [Nat.sub_mul, Nat.one_mul]
    omega
  rw [e, Nat.mul_comm, Nat.mul_add_mod]
  exact Nat.mod_eq_of_lt (by omega)
end Go.Pl
namespace Go.Pl
theorem keep_succ (x i : Nat) (h : i < 32) : keepN x i ||| (x / 2 ^ (31 - i) % 2 * 2 ^ (31 - i)) = keepN x (i + 1) := by
  unfold keepN
  have e1 : 32 - (i + 1) = 31 - i := by omega
  have e2 : 32 - i = (31 - i) + 1 := by omega
  rw [e1, e2]
  generalize 31 - i = k
  have hlt : x / 2 ^ k % 2 * 2 ^ k < 2 ^ (k + 1) := by
    rw [Nat.pow_succ, Nat.mul_comm (2 ^ k) 2]
    exact Nat.mul_lt_mul_of_pos_right (Nat.mod_lt _ (by omega)) (Nat.two_pow_pos k)
  rw [lor_low _ _ _ hlt]
  have e3 : x / 2 ^ (k + 1) = x / 2 ^ k / 2 := by rw [Nat.pow_succ, Nat.div_div_eq_div_mul]
  rw [e3, Nat.pow_succ]
  generalize x / 2 ^ k = q
  have := Nat.div_add_mod q 2
  have e4 : q / 2 * (2 ^ k * 2) = (2 * (q / 2)) * 2 ^ k := by rw [Nat.mul_comm (2 ^ k) 2, ← Nat.mul_assoc, Nat.mul_comm (q / 2) 2]
  rw [e4, ← Nat.add_mul, this]
theorem keep_zero (x : Nat) (hx : x < 2 ^ 32) : keepN x 0 = 0 := by
  unfold keepN; rw [Nat.sub_zero, Nat.div_eq_of_lt hx, Nat.zero_mul]
theorem keep_mul (x c : Nat) : 2 ^ (32 - c) ∣ keepN x c := ⟨_, Nat.mul_comm _ _⟩
end Go.Pl
/- Prefixes and what the functions on one prefix compute. No program in sight. -/
namespace Go.Pl
open Go.RT
structure Pfx where
  addr : Nat
  len : Int
  deriving DecidableEq
def Pfx.ok (p : Pfx) : Prop := p.addr < 2 ^ 32 ∧ inr .i64 p.len
def encP (p : Pfx) : List FV := [If .u32 p.addr, If .i64 p.len]
abbrev VP (l : List Pfx) : FV := .vals 2 (l.map encP)
def validB (p : Pfx) : Bool := decide (0 ≤ p.len) && decide (p.len ≤ 32) && decide ((keepN p.addr (clampN p.len) : Int) = p.addr)
def ofP (a : Nat) (n : Int) : Pfx := ⟨keepN a (clampN n), n⟩
theorem eqFs_encP (p q : Pfx) : eqFs (encP p) (encP q) = decide (p = q) := by
  obtain ⟨a, b⟩ := p; obtain ⟨c, d⟩ := q
  simp [eqFs, encP, If]
  by_cases h1 : a = c <;> by_cases h2 : b = d <;> simp [h1, h2] <;> omega
def containsB (p : Pfx) (a : Nat) : Bool := validB p && eqFs (encP (ofP a p.len)) (encP p)
def coversB (p q : Pfx) : Bool := validB q && containsB p q.addr && decide (p.len ≤ q.len)
def parentF (p : Pfx) : FV := if validB p = true ∧ p.len ≠ 0 then .tup [.agg (encP (ofP p.addr (p.len - 1))), Bf true] else .tup [.agg [If .u32 0, If .i64 0], Bf false]
def lastN (p : Pfx) : Nat := if validB p = true then p.addr ||| (4294967295 - (2 ^ 32 - 2 ^ (32 - clampN p.len))) else 0
def halvesF (p : Pfx) (a b : Nat) : FV := if validB p = true ∧ p.len ≠ 32 then .tup [.agg (encP ⟨a, p.len + 1⟩), .agg (encP ⟨b, p.len + 1⟩), Bf true] else .tup [.agg [If .u32 0, If .i64 0], .agg [If .u32 0, If .i64 0], Bf false]
theorem row_at {α β : Type} (f : α → β) (l : List α) (i : Nat) (h : i < l.length) : (l.map f)[i]? = some (f l[i]) := by simp [h]
theorem take_eq_succ {α : Type} {a b : List α} {i : Nat} (ha : i < a.length) (hb : i < b.length) (h : a.take i = b.take i) (e : a[i] = b[i]) : a.take (i + 1) = b.take (i + 1) := by
  rw [List.take_succ_eq_append_getElem ha, List.take_succ_eq_append_getElem hb, h, e]
theorem lastN_lt (p : Pfx) (h : p.ok) : lastN p < 2 ^ 32 := by
  unfold lastN; split
  · exact Nat.or_lt_two_pow h.1 (by omega)
  · omega

/-- the number of host bits -/
def hob (p : Pfx) : Nat := 32 - clampN p.len
def sz (p : Pfx) : Nat := 2 ^ hob p
theorem sz_pos (p : Pfx) : 0 < sz p := Nat.two_pow_pos _
theorem hob_le (p : Pfx) : hob p ≤ 32 := Nat.sub_le _ _
theorem valid_iff (p : Pfx) : validB p = true ↔ (0 ≤ p.len ∧ p.len ≤ 32) ∧ sz p ∣ p.addr := by
  unfold validB keepN sz hob
  simp only [Bool.and_eq_true, decide_eq_true_eq]
  constructor
  · rintro ⟨h, e⟩; exact ⟨h, ⟨p.addr / 2 ^ (32 - clampN p.len), by rw [Nat.mul_comm]; omega⟩⟩
  · rintro ⟨h, e⟩; exact ⟨h, by rw [Nat.div_mul_cancel e]⟩
theorem valid_len {p : Pfx} (h : validB p = true) : p.len = 32 - (hob p : Int) := by
  have := (valid_iff p).1 h
  have := clampN_of this.1.1 this.1.2
  have := clampN_le p.len
  unfold hob; omega
theorem pow_dvd32 {k : Nat} (h : k ≤ 32) : 2 ^ k ∣ 2 ^ 32 := Nat.pow_dvd_pow 2 h
/-- an aligned block below a bound that is a multiple of its size fits -/
theorem block_fit {a s M : Nat} (h1 : s ∣ a) (h2 : s ∣ M) (h : a < M) : a + s ≤ M := by
  obtain ⟨x, rfl⟩ := h1; obtain ⟨y, rfl⟩ := h2
  have hs : x < y := by
    rcases Nat.lt_or_ge x y with h3 | h3
    · exact h3
    · have := Nat.mul_le_mul_left s h3; omega
  calc s * x + s = s * (x + 1) := by rw [Nat.mul_succ]
    _ ≤ s * y := Nat.mul_le_mul_left s hs
theorem valid_fit {p : Pfx} (h : validB p = true) (ha : p.addr < 2 ^ 32) : p.addr + sz p ≤ 2 ^ 32 := block_fit ((valid_iff p).1 h).2 (pow_dvd32 (hob_le p)) ha
theorem lastN_eq {p : Pfx} (h : validB p = true) : lastN p = p.addr + (sz p - 1) := by
  unfold lastN
  rw [if_pos h]
  obtain ⟨_, q, e⟩ := (valid_iff p).1 h
  have hp := sz_pos p
  have hle : sz p ≤ 2 ^ 32 := Nat.pow_le_pow_right (by omega) (hob_le p)
  have e2 : 4294967295 - (2 ^ 32 - 2 ^ (32 - clampN p.len)) = sz p - 1 := by unfold sz hob at *; omega
  rw [e2, e, Nat.mul_comm]
  exact lor_low q (hob p) _ (by unfold sz; unfold sz at hp; omega)
theorem keepN_block {x c a : Nat} (ha : 2 ^ (32 - c) ∣ a) : keepN x c = a ↔ a ≤ x ∧ x < a + 2 ^ (32 - c) := by
  obtain ⟨q, rfl⟩ := ha
  unfold keepN
  have hp := Nat.two_pow_pos (32 - c)
  generalize 2 ^ (32 - c) = s at *
  have h1 := Nat.div_add_mod x s
  have h2 := Nat.mod_lt x hp
  rw [Nat.mul_comm (x / s) s]
  constructor
  · intro h
    rw [← h]; omega
  · rintro ⟨h3, h4⟩
    have : x / s = q := by
      rw [Nat.div_eq_iff hp]; rw [Nat.mul_comm q s]; omega
    rw [this]
theorem contains_iff (p : Pfx) (a : Nat) : containsB p a = true ↔ validB p = true ∧ p.addr ≤ a ∧ a < p.addr + sz p := by
  unfold containsB
  rw [eqFs_encP, Bool.and_eq_true, decide_eq_true_eq]
  constructor
  · rintro ⟨h, e⟩
    have h2 := ((valid_iff p).1 h).2
    exact ⟨h, (keepN_block h2).1 (congrArg Pfx.addr e)⟩
  · rintro ⟨h, e⟩
    have h2 := ((valid_iff p).1 h).2
    refine ⟨h, ?_⟩
    have := (keepN_block (c := clampN p.len) h2).2 e
    unfold ofP; rw [this]
end Go.Pl
/- Plain facts on runs of addresses. No program in sight. -/
namespace Go.Pl
open Go.RT
structure Spn where
  lo : Nat
  hi : Nat
  deriving DecidableEq
def memS (l : List Spn) (x : Nat) : Prop := ∃ s ∈ l, s.lo ≤ x ∧ x < s.hi
/-- ascending, disjoint, apart -/
def Canon (l : List Spn) : Prop := (∀ s ∈ l, s.lo < s.hi) ∧ l.Pairwise (fun a b => a.hi < b.lo)
theorem Canon.nil : Canon [] := ⟨by simp, by simp⟩

theorem Canon.push {l : List Spn} {s : Spn} (h : Canon l) (hs : s.lo < s.hi) (hl : ∀ o ∈ l, o.hi < s.lo) : Canon (l ++ [s]) := by
  refine ⟨fun o ho => ?_, ?_⟩
  · rcases List.mem_append.1 ho with h1 | h1
    · exact h.1 o h1
    · simp at h1; subst h1; exact hs
  · rw [List.pairwise_append]
    exact ⟨h.2, by simp, fun a ha b hb => by simp at hb; subst hb; exact hl a ha⟩
theorem Canon.lastHi {l : List Spn} {s : Spn} (h : Canon (l ++ [s])) : ∀ o ∈ l, o.hi < s.lo := by
  have := h.2
  rw [List.pairwise_append] at this
  exact fun o ho => this.2.2 o ho s (by simp)
theorem Canon.init {l : List Spn} {s : Spn} (h : Canon (l ++ [s])) : Canon l := by
  have := h.2
  rw [List.pairwise_append] at this
  exact ⟨fun o ho => h.1 o (by simp [ho]), this.1⟩
theorem Canon.hi_le {l : List Spn} {s : Spn} (h : Canon (l ++ [s])) : ∀ o ∈ l ++ [s], o.hi ≤ s.hi := by
  intro o ho
  rcases List.mem_append.1 ho with h1 | h1
  · have := h.lastHi o h1
    have := h.1 s (by simp)
    omega
  · simp at h1; subst h1; omega

/-- one run taken in: the runs so far, and one that begins at or after every one of them -/
def joinS : List Spn → Spn → List Spn
  | [], s => if s.lo < s.hi then [s] else []
  | o :: l, s => match l with
    | [] => if s.lo ≤ o.hi then [⟨o.lo, max o.hi s.hi⟩] else if s.lo < s.hi then [o, s] else [o]
    | _ => o :: joinS l s
theorem joinS_snoc (l : List Spn) (o s : Spn) : joinS (l ++ [o]) s = if s.lo ≤ o.hi then l ++ [⟨o.lo, max o.hi s.hi⟩] else if s.lo < s.hi then l ++ [o, s] else l ++ [o] := by
  induction l with
  | nil => simp [joinS]
  | cons a l ih =>
    cases l with
    | nil => simp [joinS]; split <;> (try split) <;> rfl
    | cons b l =>
      have e : joinS (a :: b :: (l ++ [o])) s = a :: joinS (b :: (l ++ [o])) s := rfl
      simp only [List.cons_append] at ih ⊢
      rw [e, ih]
      by_cases h1 : s.lo ≤ o.hi <;> by_cases h2 : s.lo < s.hi <;> simp [h1, h2]
theorem mem_snoc (l : List Spn) (s : Spn) (x : Nat) : memS (l ++ [s]) x ↔ memS l x ∨ (s.lo ≤ x ∧ x < s.hi) := by
  unfold memS
  constructor
  · rintro ⟨o, ho, h⟩
    rcases List.mem_append.1 ho with h1 | h1
    · exact .inl ⟨o, h1, h⟩
    · simp at h1; subst h1; exact .inr h
  · rintro (⟨o, ho, h⟩ | h)
    · exact ⟨o, by simp [ho], h⟩
    · exact ⟨s, by simp, h⟩
theorem snoc_or {α : Type} (l : List α) : l = [] ∨ ∃ r a, l = r ++ [a] := by
  by_cases h : l = []
  · exact .inl h
  · exact .inr ⟨l.dropLast, l.getLast h, (List.dropLast_concat_getLast h).symm⟩
theorem joinS_spec {l : List Spn} {s : Spn} (h : Canon l) (hs : s.lo < s.hi) (hl : ∀ o ∈ l, o.lo ≤ s.lo) :
    Canon (joinS l s) ∧ (∀ x, memS (joinS l s) x ↔ memS l x ∨ (s.lo ≤ x ∧ x < s.hi)) ∧ (∀ o ∈ joinS l s, o.lo ≤ s.lo) ∧ (joinS l s).length ≤ l.length + 1 := by
  rcases snoc_or l with rfl | ⟨r, o, rfl⟩
  · simp only [joinS, if_pos hs]
    exact ⟨Canon.nil.push (s := s) hs (by simp), fun x => by simpa using mem_snoc [] s x, by simp, by simp⟩
  · rw [joinS_snoc]
    have ho := h.1 o (by simp)
    have hlo := hl o (by simp)
    by_cases h1 : s.lo ≤ o.hi
    · rw [if_pos h1]
      refine ⟨h.init.push (by show o.lo < max o.hi s.hi; omega) h.lastHi, fun x => ?_, fun q hq => ?_, by simp⟩
      · rw [mem_snoc, mem_snoc]
        simp only
        constructor
        · rintro (h2 | h2)
          · exact .inl (.inl h2)
          · by_cases h3 : x < o.hi
            · exact .inl (.inr ⟨h2.1, h3⟩)
            · exact .inr ⟨by omega, by omega⟩
        · rintro ((h2 | h2) | h2)
          · exact .inl h2
          · exact .inr ⟨h2.1, by omega⟩
          · exact .inr ⟨by omega, by omega⟩
      · rcases List.mem_append.1 hq with h2 | h2
        · exact hl q (by simp [h2])
        · simp at h2; subst h2; exact hlo
    · rw [if_neg h1, if_pos hs]
      have e : r ++ [o, s] = (r ++ [o]) ++ [s] := by simp
      rw [e]
      refine ⟨h.push hs fun q hq => ?_, fun x => mem_snoc _ _ x, fun q hq => ?_, by simp⟩
      · have := h.hi_le q hq; omega
      · rcases List.mem_append.1 hq with h2 | h2
        · exact hl q h2
        · simp at h2; subst h2; omega
theorem Canon.ext_aux : ∀ {a b : List Spn}, Canon a → Canon b → (∀ x, memS a x ↔ memS b x) → a = b
  | [], [], _, _, _ => rfl
  | [], t :: b, _, hb, h => by
    have := (h t.lo).2 ⟨t, by simp, Nat.le_refl _, hb.1 t (by simp)⟩
    obtain ⟨_, h1, _⟩ := this; cases h1
  | s :: a, [], ha, _, h => by
    have := (h s.lo).1 ⟨s, by simp, Nat.le_refl _, ha.1 s (by simp)⟩
    obtain ⟨_, h1, _⟩ := this; cases h1
  | s :: a, t :: b, ha, hb, h => by
    have hs := ha.1 s (by simp)
    have ht := hb.1 t (by simp)
    have pa := List.pairwise_cons.1 ha.2
    have pb := List.pairwise_cons.1 hb.2
    have la : ∀ x, memS (s :: a) x → s.lo ≤ x := by
      rintro x ⟨o, ho, h1, h2⟩
      rcases List.mem_cons.1 ho with rfl | ho
      · exact h1
      · have := pa.1 o ho; omega
    have lb : ∀ x, memS (t :: b) x → t.lo ≤ x := by
      rintro x ⟨o, ho, h1, h2⟩
      rcases List.mem_cons.1 ho with rfl | ho
      · exact h1
      · have := pb.1 o ho; omega
    have e1 : s.lo = t.lo := by
      have h1 := lb _ ((h s.lo).1 ⟨s, by simp, Nat.le_refl _, hs⟩)
      have h2 := la _ ((h t.lo).2 ⟨t, by simp, Nat.le_refl _, ht⟩)
      omega
    have ga : ¬ memS (s :: a) s.hi := by
      rintro ⟨o, ho, h1, h2⟩
      rcases List.mem_cons.1 ho with rfl | ho
      · omega
      · have := pa.1 o ho; omega
    have gb : ¬ memS (t :: b) t.hi := by
      rintro ⟨o, ho, h1, h2⟩
      rcases List.mem_cons.1 ho with rfl | ho
      · omega
      · have := pb.1 o ho; omega
    have e2 : s.hi = t.hi := by
      rcases Nat.lt_trichotomy s.hi t.hi with hlt | heq | hgt
      · exact absurd ((h s.hi).2 ⟨t, by simp, by omega, hlt⟩) ga
      · exact heq
      · exact absurd ((h t.hi).1 ⟨s, by simp, by omega, hgt⟩) gb
    have e : s = t := by cases s; cases t; simp_all
    subst e
    have := Canon.ext_aux ⟨fun o ho => ha.1 o (by simp [ho]), pa.2⟩ ⟨fun o ho => hb.1 o (by simp [ho]), pb.2⟩ (fun x => by
      constructor
      · rintro ⟨o, ho, h1, h2⟩
        have := pa.1 o ho
        obtain ⟨q, hq, h3, h4⟩ := (h x).1 ⟨o, by simp [ho], h1, h2⟩
        rcases List.mem_cons.1 hq with rfl | hq
        · omega
        · exact ⟨q, hq, h3, h4⟩
      · rintro ⟨o, ho, h1, h2⟩
        have := pb.1 o ho
        obtain ⟨q, hq, h3, h4⟩ := (h x).2 ⟨o, by simp [ho], h1, h2⟩
        rcases List.mem_cons.1 hq with rfl | hq
        · omega
        · exact ⟨q, hq, h3, h4⟩)
    rw [this]
end Go.Pl
/- Lists of runs and lists of prefixes. No program in sight. -/
namespace Go.Pl
open Go.RT
def okS (l : List Spn) : Prop := ∀ s ∈ l, s.lo < s.hi ∧ s.hi ≤ 2 ^ 32
def insS (s : Spn) : List Spn → List Spn
  | [] => [s]
  | t :: l => if s.lo ≤ t.lo then s :: t :: l else t :: insS s l
def sortS : List Spn → List Spn
  | [] => []
  | s :: l => insS s (sortS l)
def canonOf (l : List Spn) : List Spn := (sortS l).foldl joinS []

theorem mem_insS (s : Spn) (l : List Spn) (t : Spn) : t ∈ insS s l ↔ t = s ∨ t ∈ l := by
  induction l with
  | nil => simp [insS]
  | cons u l ih =>
    simp only [insS]; split
    · simp
    · simp only [List.mem_cons, ih]
      constructor
      · rintro (h | h | h) <;> simp [h]
      · rintro (h | h | h) <;> simp [h]
theorem insS_sorted (s : Spn) (l : List Spn) (h : l.Pairwise (fun a b => a.lo ≤ b.lo)) : (insS s l).Pairwise (fun a b => a.lo ≤ b.lo) := by
  induction l with
  | nil => simp [insS]
  | cons u l ih =>
    obtain ⟨h1, h2⟩ := List.pairwise_cons.1 h
    simp only [insS]; split
    · rename_i hle
      refine List.pairwise_cons.2 ⟨fun t ht => ?_, h⟩
      rcases List.mem_cons.1 ht with rfl | ht
      · exact hle
      · have := h1 t ht; omega
    · rename_i hle
      refine List.pairwise_cons.2 ⟨fun t ht => ?_, ih h2⟩
      rcases (mem_insS s l t).1 ht with rfl | ht
      · omega
      · exact h1 t ht
theorem length_insS (s : Spn) (l : List Spn) : (insS s l).length = l.length + 1 := by
  induction l with
  | nil => rfl
  | cons u l ih => simp only [insS]; split <;> simp [ih]
theorem mem_sortS (l : List Spn) (t : Spn) : t ∈ sortS l ↔ t ∈ l := by
  induction l with
  | nil => simp [sortS]
  | cons u l ih => simp [sortS, mem_insS, ih]
theorem sortS_sorted (l : List Spn) : (sortS l).Pairwise (fun a b => a.lo ≤ b.lo) := by
  induction l with
  | nil => simp [sortS]
  | cons u l ih => exact insS_sorted _ _ ih
theorem length_sortS (l : List Spn) : (sortS l).length = l.length := by
  induction l with
  | nil => rfl
  | cons u l ih => simp [sortS, length_insS, ih]
theorem memS_cons (s : Spn) (l : List Spn) (x : Nat) : memS (s :: l) x ↔ (s.lo ≤ x ∧ x < s.hi) ∨ memS l x := by simp [memS]
theorem memS_nil (x : Nat) : ¬ memS [] x := by simp [memS]
theorem memS_append (a b : List Spn) (x : Nat) : memS (a ++ b) x ↔ memS a x ∨ memS b x := by
  unfold memS
  constructor
  · rintro ⟨s, hs, h⟩
    rcases List.mem_append.1 hs with h1 | h1
    · exact .inl ⟨s, h1, h⟩
    · exact .inr ⟨s, h1, h⟩
  · rintro (⟨s, hs, h⟩ | ⟨s, hs, h⟩)
    · exact ⟨s, by simp [hs], h⟩
    · exact ⟨s, by simp [hs], h⟩
theorem memS_congr {a b : List Spn} (h : ∀ s, s ∈ a ↔ s ∈ b) (x : Nat) : memS a x ↔ memS b x := by
  unfold memS; constructor <;> rintro ⟨s, hs, h1⟩
  · exact ⟨s, (h s).1 hs, h1⟩
  · exact ⟨s, (h s).2 hs, h1⟩
theorem fold_spec : ∀ (l out : List Spn), Canon out → (∀ s ∈ l, s.lo < s.hi) → l.Pairwise (fun a b => a.lo ≤ b.lo) → (∀ o ∈ out, ∀ s ∈ l, o.lo ≤ s.lo) →
    Canon (l.foldl joinS out) ∧ (∀ x, memS (l.foldl joinS out) x ↔ memS out x ∨ memS l x) ∧ (l.foldl joinS out).length ≤ out.length + l.length
  | [], out, h, _, _, _ => ⟨h, fun x => by simp [memS_nil], by simp⟩
  | s :: l, out, h, hl, hp, ho => by
    obtain ⟨p1, p2⟩ := List.pairwise_cons.1 hp
    obtain ⟨c1, c2, c3, c4⟩ := joinS_spec h (hl s (by simp)) (fun o h => ho o h s (by simp))
    obtain ⟨f1, f2, f3⟩ := fold_spec l (joinS out s) c1 (fun t ht => hl t (by simp [ht])) p2 (fun o h1 t ht => Nat.le_trans (c3 o h1) (p1 t ht))
    refine ⟨f1, fun x => ?_, by simp only [List.foldl_cons, List.length_cons]; omega⟩
    rw [List.foldl_cons, f2, c2, memS_cons]
    constructor
    · rintro ((h | h) | h) <;> simp [h]
    · rintro (h | h | h) <;> simp [h]
theorem okS_of {out : List Spn} (h : Canon out) (hm : ∀ x, memS out x → x < 2 ^ 32) : okS out := fun s hs => by
  have hlt := h.1 s hs
  have := hm (s.hi - 1) ⟨s, hs, by omega, by omega⟩
  exact ⟨hlt, by omega⟩
theorem memS_lt {l : List Spn} (h : okS l) {x : Nat} (hx : memS l x) : x < 2 ^ 32 := by
  obtain ⟨s, hs, h1, h2⟩ := hx
  have := h s hs; omega
theorem canon_spec {l : List Spn} (h : okS l) : Canon (canonOf l) ∧ okS (canonOf l) ∧ (∀ x, memS (canonOf l) x ↔ memS l x) ∧ (canonOf l).length ≤ l.length := by
  obtain ⟨c1, c2, c3⟩ := fold_spec (sortS l) [] Canon.nil (fun s hs => (h s ((mem_sortS l s).1 hs)).1) (sortS_sorted l) (by simp)
  have e : ∀ x, memS (canonOf l) x ↔ memS l x := fun x => by
    have := c2 x
    rw [memS_congr (mem_sortS l) x] at this
    simp only [memS_nil, false_or] at this
    exact this
  exact ⟨c1, okS_of c1 (fun x hx => memS_lt h ((e x).1 hx)), e, by have := length_sortS l; simp only [canonOf]; simp at c3; omega⟩
theorem canon_eq {l out : List Spn} (h : okS l) (hc : Canon out) (hm : ∀ x, memS out x ↔ memS l x) : out = canonOf l :=
  Canon.ext_aux hc (canon_spec h).1 fun x => (hm x).trans ((canon_spec h).2.2.1 x).symm

/-! ## the runs of a list of prefixes -/
def okL (l : List Pfx) : Prop := ∀ p ∈ l, p.ok
def toS (p : Pfx) : Spn := ⟨p.addr, p.addr + sz p⟩
def runsOf (l : List Pfx) : List Spn := (l.filter validB).map toS
def spansOf (l : List Pfx) : List Spn := canonOf (runsOf l)
def memP (l : List Pfx) (x : Nat) : Prop := ∃ p ∈ l, validB p = true ∧ p.addr ≤ x ∧ x < p.addr + sz p
theorem runsOf_ok {l : List Pfx} (h : okL l) : okS (runsOf l) := fun s hs => by
  obtain ⟨p, hp, rfl⟩ := List.mem_map.1 hs
  obtain ⟨h1, h2⟩ := List.mem_filter.1 hp
  have h3 := valid_fit h2 (h p h1).1
  have := sz_pos p
  exact ⟨by simp only [toS]; omega, h3⟩
theorem memS_runsOf (l : List Pfx) (x : Nat) : memS (runsOf l) x ↔ memP l x := by
  unfold memS memP runsOf
  constructor
  · rintro ⟨s, hs, h⟩
    obtain ⟨p, hp, rfl⟩ := List.mem_map.1 hs
    obtain ⟨h1, h2⟩ := List.mem_filter.1 hp
    exact ⟨p, h1, h2, h⟩
  · rintro ⟨p, hp, h2, h⟩
    exact ⟨toS p, List.mem_map.2 ⟨p, List.mem_filter.2 ⟨hp, h2⟩, rfl⟩, h⟩
theorem spans_spec {l : List Pfx} (h : okL l) : Canon (spansOf l) ∧ okS (spansOf l) ∧ (∀ x, memS (spansOf l) x ↔ memP l x) ∧ (spansOf l).length ≤ l.length := by
  obtain ⟨a, b, c, d⟩ := canon_spec (runsOf_ok h)
  refine ⟨a, b, fun x => (c x).trans (memS_runsOf l x), ?_⟩
  have : (runsOf l).length ≤ l.length := by unfold runsOf; rw [List.length_map]; exact List.length_filter_le _ _
  unfold spansOf; omega

/-! ## intersection and complement -/
def meetS (a b : List Spn) : List Spn := a.flatMap fun s => b.filterMap fun t => if max s.lo t.lo < min s.hi t.hi then some ⟨max s.lo t.lo, min s.hi t.hi⟩ else none
theorem mem_meetS (a b : List Spn) (u : Spn) : u ∈ meetS a b ↔ ∃ s ∈ a, ∃ t ∈ b, u = ⟨max s.lo t.lo, min s.hi t.hi⟩ ∧ u.lo < u.hi := by
  simp only [meetS, List.mem_flatMap, List.mem_filterMap]
  constructor
  · rintro ⟨s, hs, t, ht, h⟩
    split at h
    · rename_i hlt
      simp at h; subst h; exact ⟨s, hs, t, ht, rfl, hlt⟩
    · cases h
  · rintro ⟨s, hs, t, ht, rfl, hlt⟩
    exact ⟨s, hs, t, ht, by rw [if_pos hlt]⟩
theorem meetS_ok {a b : List Spn} (ha : okS a) : okS (meetS a b) := fun u hu => by
  obtain ⟨s, hs, t, ht, rfl, hlt⟩ := (mem_meetS a b u).1 hu
  have := ha s hs
  exact ⟨hlt, by simp only; omega⟩
theorem memS_meetS (a b : List Spn) (x : Nat) : memS (meetS a b) x ↔ memS a x ∧ memS b x := by
  constructor
  · rintro ⟨u, hu, h1, h2⟩
    obtain ⟨s, hs, t, ht, rfl, hlt⟩ := (mem_meetS a b u).1 hu
    simp only at h1 h2
    exact ⟨⟨s, hs, by omega, by omega⟩, ⟨t, ht, by omega, by omega⟩⟩
  · rintro ⟨⟨s, hs, h1, h2⟩, ⟨t, ht, h3, h4⟩⟩
    exact ⟨⟨max s.lo t.lo, min s.hi t.hi⟩, (mem_meetS a b _).2 ⟨s, hs, t, ht, rfl, by simp only; omega⟩, by simp only; omega, by simp only; omega⟩
def interS (a b : List Spn) : List Spn := canonOf (meetS a b)
def compS : Nat → List Spn → List Spn
  | lo, [] => if lo < 2 ^ 32 then [⟨lo, 2 ^ 32⟩] else []
  | lo, s :: l => if lo < s.lo then ⟨lo, s.lo⟩ :: compS s.hi l else compS s.hi l
theorem comp_spec : ∀ (l : List Spn) (lo : Nat), Canon l → okS l → lo ≤ 2 ^ 32 → (∀ s ∈ l, lo ≤ s.lo) →
    Canon (compS lo l) ∧ okS (compS lo l) ∧ (∀ x, memS (compS lo l) x ↔ lo ≤ x ∧ x < 2 ^ 32 ∧ ¬ memS l x)
  | [], lo, _, _, h, _ => by
    simp only [compS]
    split
    · rename_i hlt
      exact ⟨Canon.nil.push (s := ⟨lo, 2 ^ 32⟩) hlt (by simp), fun s hs => by simp at hs; subst hs; exact ⟨hlt, Nat.le_refl _⟩, fun x => by simp [memS]⟩
    · rename_i hlt
      refine ⟨Canon.nil, fun s hs => by simp at hs, fun x => ?_⟩
      simp only [memS_nil, false_iff]; omega
  | s :: l, lo, hc, ho, h, hl => by
    obtain ⟨p1, p2⟩ := List.pairwise_cons.1 hc.2
    have hs := ho s (by simp)
    have hlo := hl s (by simp)
    obtain ⟨c1, c2, c3⟩ := comp_spec l s.hi ⟨fun t ht => hc.1 t (by simp [ht]), p2⟩ (fun t ht => ho t (by simp [ht])) hs.2 (fun t ht => Nat.le_of_lt (p1 t ht))
    have hnl : ∀ x, x < s.hi → ¬ memS l x := fun x hx ⟨t, ht, h1, h2⟩ => by have := p1 t ht; omega
    have hge : ∀ t ∈ compS s.hi l, s.hi ≤ t.lo := fun t ht => ((c3 t.lo).1 ⟨t, ht, Nat.le_refl _, c1.1 t ht⟩).1
    simp only [compS]
    split
    · rename_i hlt
      refine ⟨⟨fun t ht => ?_, List.pairwise_cons.2 ⟨fun t ht => ?_, c1.2⟩⟩, fun t ht => ?_, fun x => ?_⟩
      · rcases List.mem_cons.1 ht with rfl | ht
        · exact hlt
        · exact c1.1 t ht
      · have := hge t ht; simp only; omega
      · rcases List.mem_cons.1 ht with rfl | ht
        · exact ⟨hlt, by simp only; omega⟩
        · exact c2 t ht
      · rw [memS_cons, memS_cons, c3]
        simp only
        constructor
        · rintro (h1 | h1)
          · exact ⟨h1.1, by omega, fun h2 => by rcases h2 with h2 | h2; · omega
                                                · exact hnl x (by omega) h2⟩
          · exact ⟨by omega, h1.2.1, fun h2 => by rcases h2 with h2 | h2; · omega
                                                  · exact h1.2.2 h2⟩
        · rintro ⟨h1, h2, h3⟩
          by_cases h4 : x < s.lo
          · exact .inl ⟨h1, h4⟩
          · refine .inr ⟨?_, h2, fun h5 => h3 (.inr h5)⟩
            rcases Nat.lt_or_ge x s.hi with h6 | h6
            · exact absurd (.inl ⟨by omega, h6⟩) h3
            · exact h6
    · rename_i hlt
      refine ⟨c1, c2, fun x => ?_⟩
      rw [memS_cons, c3]
      constructor
      · rintro h1
        exact ⟨by omega, h1.2.1, fun h2 => by rcases h2 with h2 | h2; · omega
                                              · exact h1.2.2 h2⟩
      · rintro ⟨h1, h2, h3⟩
        refine ⟨?_, h2, fun h5 => h3 (.inr h5)⟩
        rcases Nat.lt_or_ge x s.hi with h6 | h6
        · exact absurd (.inl ⟨by omega, h6⟩) h3
        · exact h6
end Go.Pl
/- The blocks of a run. No program in sight. -/
namespace Go.Pl
open Go.RT
theorem nest {a s b t : Nat} (h1 : s ∣ a) (h2 : s ∣ t) (h3 : t ∣ b) (_ : 0 < s) : a + s ≤ b ∨ b + t ≤ a ∨ (b ≤ a ∧ a + s ≤ b + t) := by
  have hb := Nat.dvd_trans h2 h3
  by_cases h : a < b
  · exact .inl (block_fit h1 hb h)
  · by_cases h4 : a < b + t
    · exact .inr (.inr ⟨by omega, block_fit h1 ((Nat.dvd_add_right hb).2 h2) h4⟩)
    · exact .inr (.inl (by omega))
def blk (a k : Nat) : Pfx := ⟨a, 32 - (k : Int)⟩
theorem hob_blk {a k : Nat} (h : k ≤ 32) : hob (blk a k) = k := by
  have e : clampN (32 - (k : Int)) = 32 - k := by unfold clampN; omega
  unfold hob blk; simp only [e]; omega
theorem sz_blk {a k : Nat} (h : k ≤ 32) : sz (blk a k) = 2 ^ k := by unfold sz; rw [hob_blk h]
theorem valid_blk {a k : Nat} (h : k ≤ 32) (hd : 2 ^ k ∣ a) : validB (blk a k) = true := by
  rw [valid_iff, sz_blk h]
  exact ⟨⟨by unfold blk; simp only; omega, by unfold blk; simp only; omega⟩, hd⟩
theorem eq_blk {p : Pfx} (h : validB p = true) : p = blk p.addr (hob p) := by
  have := valid_len h
  cases p; simp only [blk, Pfx.mk.injEq, true_and]; exact this
/-- where the block twice as large begins -/
def pa (p : Pfx) : Nat := p.addr / (2 * sz p) * (2 * sz p)
theorem pa_spec (p : Pfx) (h : validB p = true) : 2 * sz p ∣ pa p ∧ pa p ≤ p.addr ∧ p.addr + sz p ≤ pa p + 2 * sz p := by
  have hd := ((valid_iff p).1 h).2
  have hp := sz_pos p
  have h1 : 2 * sz p ∣ pa p := ⟨_, Nat.mul_comm _ _⟩
  have h2 : pa p ≤ p.addr := Nat.div_mul_le_self _ _
  have h3 : p.addr < pa p + 2 * sz p := by
    have e1 := Nat.div_add_mod p.addr (2 * sz p)
    have e2 := Nat.mod_lt p.addr (show 0 < 2 * sz p by omega)
    unfold pa; rw [Nat.mul_comm (p.addr / _)]; omega
  refine ⟨h1, h2, ?_⟩
  rcases nest hd (show sz p ∣ 2 * sz p from ⟨2, Nat.mul_comm _ _⟩) h1 hp with h4 | h4 | h4
  · omega
  · omega
  · exact h4.2
theorem pa_uniq {p : Pfx} {a : Nat} (h : validB p = true) (hd : 2 * sz p ∣ a) (h1 : a ≤ p.addr) (h2 : p.addr < a + 2 * sz p) : pa p = a := by
  obtain ⟨e1, e2, e3⟩ := pa_spec p h
  have hp := sz_pos p
  rcases nest e1 (Nat.dvd_refl _) hd (by omega) with h4 | h4 | h4 <;> omega

def vis (r : Spn) : Nat → Nat → List Pfx
  | 0, a => if a + 1 ≤ r.lo ∨ r.hi ≤ a then [] else [blk a 0]
  | k + 1, a => if a + 2 ^ (k + 1) ≤ r.lo ∨ r.hi ≤ a then [] else if r.lo ≤ a ∧ a + 2 ^ (k + 1) ≤ r.hi then [blk a (k + 1)] else vis r k a ++ vis r k (a + 2 ^ k)

/-- the block lies in the run, and the block twice as large does not -/
def MxR (r : Spn) (k : Nat) (p : Pfx) : Prop := r.lo ≤ p.addr ∧ p.addr + sz p ≤ r.hi ∧ (hob p = k ∨ ¬ (r.lo ≤ pa p ∧ pa p + 2 * sz p ≤ r.hi))

theorem two_dvd {k a : Nat} (h : 2 ^ (k + 1) ∣ a) : 2 ^ k ∣ a ∧ 2 ^ k ∣ a + 2 ^ k := by
  have h1 : 2 ^ k ∣ a := Nat.dvd_trans (Nat.pow_dvd_pow 2 (by omega)) h
  exact ⟨h1, (Nat.dvd_add_right h1).2 (Nat.dvd_refl _)⟩

theorem vis_mem (r : Spn) : ∀ (k a : Nat), k ≤ 32 → 2 ^ k ∣ a → ∀ p, p ∈ vis r k a ↔ validB p = true ∧ a ≤ p.addr ∧ p.addr + sz p ≤ a + 2 ^ k ∧ MxR r k p
  | 0, a, hk, hd, p => by
    have hsz := sz_pos p
    simp only [vis]
    split
    · rename_i h
      simp only [List.not_mem_nil, false_iff, MxR]
      rintro ⟨h1, h2, h3, h4, h5, h6⟩
      simp only [Nat.pow_zero] at h3
      omega
    · rename_i h
      rw [List.mem_singleton]
      constructor
      · rintro rfl
        refine ⟨valid_blk hk hd, Nat.le_refl _, by rw [sz_blk hk]; exact Nat.le_refl _, ?_, ?_, .inl (hob_blk hk)⟩
        · simp only [blk]; omega
        · rw [sz_blk hk]; simp only [blk, Nat.pow_zero]; omega
      · rintro ⟨h1, h2, h3, h4, h5, h6⟩
        simp only [Nat.pow_zero] at h3
        have e1 : p.addr = a := by omega
        have e2 : sz p = 1 := by omega
        have e3 : hob p = 0 := by
          rcases Nat.eq_zero_or_pos (hob p) with h | h
          · exact h
          · have : 2 ^ 1 ≤ 2 ^ hob p := Nat.pow_le_pow_right (by omega) h
            unfold sz at e2; omega
        rw [eq_blk h1, e1, e3]
  | k + 1, a, hk, hd, p => by
    have hsz := sz_pos p
    have hpw : 2 ^ (k + 1) = 2 ^ k + 2 ^ k := by rw [Nat.pow_succ]; omega
    simp only [vis]
    split
    · rename_i h
      simp only [List.not_mem_nil, false_iff, MxR]
      rintro ⟨h1, h2, h3, h4, h5, h6⟩
      omega
    · rename_i hdis
      split
      · rename_i hin
        rw [List.mem_singleton]
        constructor
        · rintro rfl
          refine ⟨valid_blk hk hd, Nat.le_refl _, by rw [sz_blk hk]; exact Nat.le_refl _, hin.1, by rw [sz_blk hk]; exact hin.2, .inl (hob_blk hk)⟩
        · rintro ⟨h1, h2, h3, h4, h5, h6⟩
          have hle : hob p ≤ k + 1 := by
            rcases Nat.lt_or_ge (k + 1) (hob p) with h | h
            · have : 2 ^ (k + 1) < 2 ^ hob p := Nat.pow_lt_pow_right (by omega) h
              unfold sz at h3; omega
            · exact h
          have heq : hob p = k + 1 := by
            rcases h6 with h6 | h6
            · exact h6
            · rcases Nat.lt_or_ge (hob p) (k + 1) with h | h
              · exfalso; apply h6
                obtain ⟨e1, e2, e3⟩ := pa_spec p h1
                have hdv : 2 * sz p ∣ 2 ^ (k + 1) := by
                  have : 2 * sz p = 2 ^ (hob p + 1) := by unfold sz; rw [Nat.pow_succ]; omega
                  rw [this]; exact Nat.pow_dvd_pow 2 (by omega)
                rcases nest e1 hdv hd (by omega) with h7 | h7 | h7 <;> omega
              · omega
          have e2 : sz p = 2 ^ (k + 1) := by unfold sz; rw [heq]
          have e1 : p.addr = a := by omega
          rw [eq_blk h1, e1, heq]
      · rename_i hin
        obtain ⟨d1, d2⟩ := two_dvd hd
        rw [List.mem_append, vis_mem r k a (by omega) d1 p, vis_mem r k (a + 2 ^ k) (by omega) d2 p]
        constructor
        · rintro (⟨h1, h2, h3, h4, h5, h6⟩ | ⟨h1, h2, h3, h4, h5, h6⟩)
          · refine ⟨h1, h2, by omega, h4, h5, ?_⟩
            rcases h6 with h6 | h6
            · right
              have e : sz p = 2 ^ k := by unfold sz; rw [h6]
              rw [pa_uniq h1 (by rw [e, Nat.mul_comm, ← Nat.pow_succ]; exact hd) h2 (by omega)]
              rw [e]; omega
            · exact .inr h6
          · refine ⟨h1, by omega, by omega, h4, h5, ?_⟩
            rcases h6 with h6 | h6
            · right
              have e : sz p = 2 ^ k := by unfold sz; rw [h6]
              rw [pa_uniq h1 (by rw [e, Nat.mul_comm, ← Nat.pow_succ]; exact hd) (by omega) (by omega)]
              rw [e]; omega
            · exact .inr h6
        · rintro ⟨h1, h2, h3, h4, h5, h6⟩
          have hlt : hob p ≤ k := by
            rcases Nat.lt_or_ge k (hob p) with h | h
            · exfalso
              have : 2 ^ (k + 1) ≤ 2 ^ hob p := Nat.pow_le_pow_right (by omega) h
              unfold sz at *; apply hin; omega
            · exact h
          have h7 : ¬ (r.lo ≤ pa p ∧ pa p + 2 * sz p ≤ r.hi) := by
            rcases h6 with h6 | h6
            · omega
            · exact h6
          have hdv := ((valid_iff p).1 h1).2
          rcases nest hdv (show sz p ∣ 2 ^ k from Nat.pow_dvd_pow 2 hlt) d1 hsz with h8 | h8 | h8
          · omega
          · exact .inr ⟨h1, h8, by omega, h4, h5, .inr h7⟩
          · exact .inl ⟨h1, h8.1, h8.2, h4, h5, .inr h7⟩
/-- side by side, from lo up to hi -/
def chain : Nat → List Pfx → Nat → Prop
  | lo, [], hi => lo = hi
  | lo, p :: l, hi => p.addr = lo ∧ chain (lo + sz p) l hi
theorem chain_append : ∀ {lo mid hi : Nat} {a b : List Pfx}, chain lo a mid → chain mid b hi → chain lo (a ++ b) hi
  | _, _, _, [], _, h1, h2 => by cases h1; exact h2
  | _, _, _, p :: a, b, h1, h2 => ⟨h1.1, chain_append (a := a) h1.2 h2⟩
theorem vis_chain (r : Spn) (hr : r.lo < r.hi) : ∀ (k a : Nat), k ≤ 32 → (vis r k a = [] ∧ (a + 2 ^ k ≤ r.lo ∨ r.hi ≤ a)) ∨ (¬ (a + 2 ^ k ≤ r.lo ∨ r.hi ≤ a) ∧ chain (max r.lo a) (vis r k a) (min r.hi (a + 2 ^ k)))
  | 0, a, hk => by
    simp only [vis]
    split
    · rename_i h; exact .inl ⟨rfl, h⟩
    · rename_i h
      refine .inr ⟨h, ?_⟩
      simp only [chain, blk]
      have := sz_blk (a := a) hk
      simp only [blk, Nat.pow_zero] at this ⊢
      omega
  | k + 1, a, hk => by
    have hpw : 2 ^ (k + 1) = 2 ^ k + 2 ^ k := by rw [Nat.pow_succ]; omega
    have hp := Nat.two_pow_pos k
    simp only [vis]
    split
    · rename_i h; exact .inl ⟨rfl, h⟩
    · rename_i h
      refine .inr ⟨h, ?_⟩
      split
      · rename_i hin
        have := sz_blk (a := a) hk
        simp only [chain]
        rw [this]
        simp only [blk]
        omega
      · rcases vis_chain r hr k a (by omega) with ⟨e1, h1⟩ | ⟨h1, c1⟩ <;> rcases vis_chain r hr k (a + 2 ^ k) (by omega) with ⟨e2, h2⟩ | ⟨h2, c2⟩
        · omega
        · rw [e1, List.nil_append]
          have e : max r.lo (a + 2 ^ k) = max r.lo a := by omega
          rw [e] at c2; rw [hpw, ← Nat.add_assoc]; exact c2
        · rw [e2, List.append_nil]
          have e : min r.hi (a + 2 ^ k) = min r.hi (a + 2 ^ (k + 1)) := by omega
          rw [e] at c1; exact c1
        · have e1 : min r.hi (a + 2 ^ k) = a + 2 ^ k := by omega
          have e2 : max r.lo (a + 2 ^ k) = a + 2 ^ k := by omega
          rw [e1] at c1; rw [e2] at c2
          rw [hpw, ← Nat.add_assoc]; exact chain_append c1 c2
def prefsF (l : List Spn) : List Pfx := l.flatMap fun r => vis r 32 0
theorem vis_whole (r : Spn) (hr : r.lo < r.hi) (hh : r.hi ≤ 2 ^ 32) : chain r.lo (vis r 32 0) r.hi := by
  rcases vis_chain r hr 32 0 (Nat.le_refl _) with ⟨_, h⟩ | ⟨_, c⟩
  · omega
  · have e1 : max r.lo 0 = r.lo := by omega
    have e2 : min r.hi (0 + 2 ^ 32) = r.hi := by omega
    rw [e1, e2] at c; exact c
/-- at most k blocks begin a block of 2^k addresses that is not whole, and twice as many lie within -/
theorem vis_count (r : Spn) : ∀ (k a : Nat), ((r.lo ≤ a ∨ a + 2 ^ k ≤ r.hi) → (vis r k a).length ≤ max 1 k) ∧ (vis r k a).length ≤ max 1 (2 * (k - 1))
  | 0, a => by simp only [vis]; split <;> simp
  | k + 1, a => by
    have hpw : 2 ^ (k + 1) = 2 ^ k + 2 ^ k := by rw [Nat.pow_succ]; omega
    have hp := Nat.two_pow_pos k
    obtain ⟨c1, c2⟩ := vis_count r k a
    obtain ⟨c3, c4⟩ := vis_count r k (a + 2 ^ k)
    have one : ∀ b, (r.lo ≤ b ∧ b + 2 ^ k ≤ r.hi) → (vis r k b).length ≤ 1 := fun b hb => by
      cases k with
      | zero => simp only [vis]; split <;> simp
      | succ k =>
        simp only [vis]
        split
        · simp
        · simp
    have none : ∀ b, (b + 2 ^ k ≤ r.lo ∨ r.hi ≤ b) → (vis r k b).length = 0 := fun b hb => by
      cases k with
      | zero => simp only [vis, Nat.pow_zero] at *; rw [if_pos hb]; rfl
      | succ k => simp only [vis]; rw [if_pos hb]; rfl
    simp only [vis]
    split
    · simp
    · rename_i h
      split
      · simp
        omega
      · rename_i hin
        simp only [List.length_append]
        by_cases h1 : r.hi ≤ a + 2 ^ k
        · have := none (a + 2 ^ k) (.inr h1)
          refine ⟨fun h2 => ?_, ?_⟩
          · have := c1 (by omega); omega
          · have := c2; omega
        · by_cases h2 : a + 2 ^ k ≤ r.lo
          · have := none a (.inl h2)
            refine ⟨fun h2 => ?_, ?_⟩
            · have := c3 (by omega); omega
            · omega
          · have d1 := c1 (.inr (by omega))
            have d2 := c3 (.inl (by omega))
            have hk0 : k ≠ 0 := fun e => by
              subst e
              simp only [Nat.pow_zero, Nat.zero_add, Nat.pow_one] at h1 h2 hin
              omega
            refine ⟨fun h3 => ?_, ?_⟩
            · rcases h3 with h3 | h3
              · have := one a ⟨h3, by omega⟩; omega
              · have := one (a + 2 ^ k) ⟨by omega, by omega⟩; omega
            · cases k with
              | zero => omega
              | succ k => omega
theorem vis62 (r : Spn) : (vis r 32 0).length ≤ 62 := by have := (vis_count r 32 0).2; omega
theorem prefs62 (r : Spn) : (prefsF [r]).length ≤ 62 := by have := vis62 r; simpa [prefsF] using this
end Go.Pl
namespace Go.Pl
open Go.RT
theorem max_blk {r : Spn} {q : Pfx} {j : Nat} (hq : q ∈ vis r 32 0) (hj : j ≤ 32) (hd : 2 ^ j ∣ q.addr) (hf : q.addr + 2 ^ j ≤ r.hi) : j ≤ hob q := by
  obtain ⟨h1, _, _, h4, h5, h6⟩ := (vis_mem r 32 0 (Nat.le_refl _) (Nat.dvd_zero _) q).1 hq
  rcases Nat.lt_or_ge (hob q) j with h | h
  · exfalso
    rcases h6 with h6 | h6
    · omega
    · have hp := sz_pos q
      have e : 2 * sz q = 2 ^ (hob q + 1) := by unfold sz; rw [Nat.pow_succ]; omega
      have hle : 2 ^ (hob q + 1) ≤ 2 ^ j := Nat.pow_le_pow_right (by omega) h
      have e2 : pa q = q.addr := pa_uniq h1 (by rw [e]; exact Nat.dvd_trans (Nat.pow_dvd_pow 2 h) hd) (Nat.le_refl _) (by omega)
      rw [e2] at h6
      omega
  · exact h
theorem vis_ok {r : Spn} {q : Pfx} (hq : q ∈ vis r 32 0) : validB q = true ∧ q.addr + sz q ≤ 2 ^ 32 ∧ q.addr + sz q ≤ r.hi := by
  obtain ⟨h1, _, h3, h4, h5, h6⟩ := (vis_mem r 32 0 (Nat.le_refl _) (Nat.dvd_zero _) q).1 hq
  exact ⟨h1, by omega, h5⟩
theorem valid_ok {q : Pfx} (h : validB q = true) (ha : q.addr < 2 ^ 32) : q.ok := by
  have := ((valid_iff q).1 h).1
  exact ⟨ha, by simp only [inr]; omega⟩
theorem prefs_ok (l : List Spn) : okL (prefsF l) := fun q hq => by
  obtain ⟨r, _, hq⟩ := List.mem_flatMap.1 hq
  obtain ⟨h1, h2, _⟩ := vis_ok hq
  have := sz_pos q
  exact valid_ok h1 (by omega)
theorem prefs_len (l : List Spn) : (prefsF l).length ≤ 62 * l.length := by
  induction l with
  | nil => simp [prefsF]
  | cons r l ih =>
    have := vis62 r
    simp only [prefsF, List.flatMap_cons, List.length_append, List.length_cons] at *
    omega
theorem chain_nil {lo hi : Nat} (h : chain lo [] hi) : lo = hi := h
theorem chain_le : ∀ {lo hi : Nat} {l : List Pfx}, chain lo l hi → lo ≤ hi
  | _, _, [], h => by cases h; exact Nat.le_refl _
  | _, _, p :: l, h => by have := chain_le h.2; omega
end Go.Pl
namespace Go.Pl
open Go.RT
theorem take_len_eq {α : Type} {l : List α} {i : Nat} (h : i = l.length) : l.take i = l := by subst h; exact List.take_length
theorem meet_succ (a b : List Spn) (i : Nat) (h : i < a.length) : meetS (a.take (i + 1)) b = meetS (a.take i) b ++ meetS [a[i]] b := by
  unfold meetS
  rw [List.take_succ_eq_append_getElem h, List.flatMap_append]
theorem meet_row (s : Spn) (b : List Spn) (j : Nat) (h : j < b.length) : meetS [s] (b.take (j + 1)) = meetS [s] (b.take j) ++ (if max s.lo b[j].lo < min s.hi b[j].hi then [⟨max s.lo b[j].lo, min s.hi b[j].hi⟩] else []) := by
  unfold meetS
  rw [List.flatMap_singleton, List.flatMap_singleton, List.take_succ_eq_append_getElem h, List.filterMap_append]
  congr 1
  by_cases hc : max s.lo b[j].lo < min s.hi b[j].hi <;> simp [hc]
theorem meet_len (a b : List Spn) : (meetS a b).length ≤ a.length * b.length := by
  unfold meetS
  induction a with
  | nil => simp
  | cons s a ih =>
    rw [List.flatMap_cons, List.length_append, List.length_cons, Nat.add_mul]
    have := List.length_filterMap_le (fun t : Spn => if max s.lo t.lo < min s.hi t.hi then some (Spn.mk (max s.lo t.lo) (min s.hi t.hi)) else none) b
    omega
def cntS (l : List Spn) : Nat := (l.map fun s => s.hi - s.lo).sum
theorem cnt_succ (l : List Spn) (i : Nat) (h : i < l.length) : cntS (l.take (i + 1)) = cntS (l.take i) + (l[i].hi - l[i].lo) := by
  unfold cntS; rw [List.take_succ_eq_append_getElem h, List.map_append, List.sum_append]; rfl
theorem cnt_le {l : List Spn} (h : okS l) : cntS l ≤ l.length * 2 ^ 32 := by
  induction l with
  | nil => simp [cntS]
  | cons s l ih =>
    have h1 := ih (fun t ht => h t (by simp [ht]))
    have h2 := h s (by simp)
    simp only [cntS, List.map_cons, List.sum_cons, List.length_cons] at *
    omega
theorem okS_take {l : List Spn} (h : okS l) (i : Nat) : okS (l.take i) := fun s hs => h s (List.mem_of_mem_take hs)
def sumK (lo hi : Nat) : Nat → Nat → Nat
  | 0, k => k
  | f + 1, k => if lo / 2 ^ k = hi / 2 ^ k then k else sumK lo hi f (k + 1)
theorem sumK_le (lo hi : Nat) : ∀ f k, sumK lo hi f k ≤ f + k
  | 0, k => by simp [sumK]
  | f + 1, k => by
    simp only [sumK]
    split
    · omega
    · have := sumK_le lo hi f (k + 1); omega
theorem compS_len : ∀ (l : List Spn) (lo : Nat), (compS lo l).length ≤ l.length + 1
  | [], lo => by simp only [compS]; split <;> simp
  | s :: l, lo => by simp only [compS]; have := compS_len l s.hi; split <;> simp <;> omega
end Go.Pl
namespace Go.Pl
@[simp] theorem meet_nil (a : List Spn) : meetS a [] = [] := by
  unfold meetS; induction a with
  | nil => rfl
  | cons s a ih => simp
@[simp] theorem meet_nil' (b : List Spn) : meetS [] b = [] := rfl
end Go.Pl
namespace Go.Pl
open Go.RT
def sumOf (s : List Spn) : Pfx × Bool := match s with
  | [] => (⟨0, 0⟩, false)
  | a :: l => let hi := ((a :: l).getLast (by simp)).hi - 1; let k := sumK a.lo hi 32 0; (⟨a.lo / 2 ^ k * 2 ^ k, 32 - (k : Int)⟩, true)
def sumFV (s : List Spn) : FV := .tup [.agg (encP (sumOf s).1), Bf (sumOf s).2]
theorem shr_lt {x k : Nat} (h : x < 2 ^ 32) : x / 2 ^ k * 2 ^ k < 2 ^ 32 := Nat.lt_of_le_of_lt (Nat.div_mul_le_self _ _) h
end Go.Pl
namespace Go.Pl
open Go.RT
/-- the halves of a valid prefix with host bits -/
theorem halves_eq {p : Pfx} {k : Nat} (h : validB p = true) (hk : hob p = k + 1) (ha : p.addr < 2 ^ 32) :
    halvesF p (keepN p.addr (clampN (p.len + 1))) (keepN (lastN p) (clampN (p.len + 1))) = .tup [.agg (encP (blk p.addr k)), .agg (encP (blk (p.addr + 2 ^ k) k)), Bf true] := by
  have hl := valid_len h
  have hle := hob_le p
  have hd := ((valid_iff p).1 h).2
  have e1 : clampN (p.len + 1) = 32 - k := by unfold clampN; omega
  have hs : sz p = 2 ^ k + 2 ^ k := by unfold sz; rw [hk, Nat.pow_succ]; omega
  have hp := Nat.two_pow_pos k
  obtain ⟨d1, d2⟩ := two_dvd (k := k) (a := p.addr) (by unfold sz at hd; rwa [hk] at hd)
  have e2 : keepN p.addr (32 - k) = p.addr := (keepN_block (by rw [show 32 - (32 - k) = k by omega]; exact d1)).2 ⟨Nat.le_refl _, by have := Nat.two_pow_pos (32 - (32 - k)); omega⟩
  have e3 : keepN (lastN p) (32 - k) = p.addr + 2 ^ k := (keepN_block (by rw [show 32 - (32 - k) = k by omega]; exact d2)).2 (by rw [show 32 - (32 - k) = k by omega, lastN_eq h, hs]; omega)
  unfold halvesF
  rw [if_pos ⟨h, by omega⟩, e1, e2, e3]
  have e4 : p.len + 1 = 32 - (k : Int) := by omega
  rw [e4]; rfl
end Go.Pl
namespace Go.Proofs.Ytdebjffddkgfbaa
open Go Go.RT Go.Proofs Go.Pl
set_option linter.all false
set_option maxRecDepth 20000

theorem clamp_any (n most : Int) : Pure Try.prog 69 [If .i64 n, If .i64 most] (If .i64 (min (max n 0) most)) := by
  refine Meets.intro Try.func69 rfl (Nat.le_of_ble_eq_true rfl) fun C hC => ?_
  simp only [List.map, argEnv, Nat.reduceAdd]
  refine nK ?_
  refine s_reg rfl ?_
  first | refine Run.pure (dd := some 4) rfl rfl (op_assign rfl (Opd.const _)) ?_ | refine Run.pure (dd := some 4) rfl rfl (op_junk (.inr rfl)) ?_
  refine Run.nil (FinR.mk ?_)
  refine nK ?_
  refine s_reg rfl ?_
  first | refine Run.pure (dd := some 5) rfl rfl (op_move rfl (Opd.tmp _ _ rfl)) ?_ | refine Run.pure (dd := some 5) rfl rfl (op_junk (.inl rfl)) ?_
  refine Run.pure (dd := some 6) rfl rfl (op_max rfl (Opd.tmp _ _ rfl) (Opd.const _)) ?_
  first | refine Run.pure (dd := some 7) rfl rfl (op_move rfl (Opd.tmp _ _ rfl)) ?_ | refine Run.pure (dd := some 7) rfl rfl (op_junk (.inl rfl)) ?_
  refine Run.pure (dd := some 8) rfl rfl (op_min rfl (Opd.tmp _ _ rfl) (Opd.tmp _ _ rfl)) ?_
  first | refine Run.pure (dd := some 4) rfl rfl (op_assign rfl (Opd.tmp _ _ rfl)) ?_ | refine Run.pure (dd := some 4) rfl rfl (op_junk (.inr rfl)) ?_
  refine Run.nil (FinR.mk ?_)
  refine nK ?_
  (first | exact s_o1 hC rfl tV | exact s_o2 hC rfl tV tV | exact s_o3 hC rfl tV tV tV | exact s_out0 hC rfl | exact s_outO hC rfl rfl rfl)

theorem mask_val (n : Int) : IV .u32 (IntKind.u32.wrap (4294967295 * 2 ^ (32 - clampN n))) = IV .u32 ((2 ^ 32 - 2 ^ (32 - clampN n) : Nat) : Int) := by
  have h1 : 2 ^ (32 - clampN n) ≤ 2 ^ 32 := Nat.pow_le_pow_right (by omega) (by omega)
  have := mask_wrap (32 - clampN n) (by omega)
  have e : (4294967295 * 2 ^ (32 - clampN n) : Int) = ((4294967295 * 2 ^ (32 - clampN n) : Nat) : Int) := by simp
  have h3 : IntKind.u32.wrap (4294967295 * 2 ^ (32 - clampN n)) = ((2 ^ 32 - 2 ^ (32 - clampN n) : Nat) : Int) := by
    rw [e]; simp only [IntKind.wrap, IntKind.bits, IntKind.signed]
    have : (4294967295 * 2 ^ (32 - clampN n)) % 2 ^ 32 = 2 ^ 32 - 2 ^ (32 - clampN n) := this
    simp; omega
  rw [h3]
theorem mask_any (n : Int) : Pure Try.prog 64 [If .i64 n] (If .u32 ((2 ^ 32 - 2 ^ (32 - clampN n) : Nat) : Int)) := by
  have hc := clampN_int n
  have hl := clampN_le n
  refine Meets.intro Try.func64 rfl (Nat.le_of_ble_eq_true rfl) fun C hC => ?_
  simp only [List.map, argEnv, Nat.reduceAdd]
  refine nK ?_
  refine s_reg rfl ?_
  first | refine Run.pure (dd := some 2) rfl rfl (op_assign rfl (Opd.const _)) ?_ | refine Run.pure (dd := some 2) rfl rfl (op_junk (.inr rfl)) ?_
  refine Run.nil (FinR.mk ?_)
  refine nK ?_
  refine s_reg rfl ?_
  first | refine Run.pure (dd := some 3) rfl rfl (op_move rfl (Opd.tmp _ _ rfl)) ?_ | refine Run.pure (dd := some 3) rfl rfl (op_junk (.inl rfl)) ?_
  refine Run.pure (dd := some 4) rfl rfl (op_call_pure (fun _ => clamp_any _ _) rfl (Opd.func _) (Opds.cons _ _ _ _ (Opd.tmp _ _ rfl) (Opds.cons _ _ _ _ (Opd.const _) Opds.nil))) ?_
  refine Run.pure (dd := some 5) rfl rfl (op_sub rfl (Opd.const _) (Opd.tmp _ _ rfl) tI) ?_
  refine Run.pure (dd := some 6) rfl rfl (castP (fun _ => mask_val n) (op_shlw (n := 32 - clampN n) rfl (Opd.const _) (Opd.tmp _ _ rfl) (by intro _; simp only [IntKind.bits]; omega))) ?_
  first | refine Run.pure (dd := some 2) rfl rfl (op_assign rfl (Opd.tmp _ _ rfl)) ?_ | refine Run.pure (dd := some 2) rfl rfl (op_junk (.inr rfl)) ?_
  refine Run.nil (FinR.mk ?_)
  refine nK ?_
  (first | exact s_o1 hC rfl tV | exact s_o2 hC rfl tV tV | exact s_o3 hC rfl tV tV tV | exact s_out0 hC rfl | exact s_outO hC rfl rfl rfl)

theorem keep_any (x : Nat) (n : Int) (hx : x < 2 ^ 32) : Pure Try.prog 65 [If .u32 x, If .i64 n] (If .u32 (keepN x (clampN n))) := by
  have hc := clampN_int n
  have hl := clampN_le n
  have hk : ((x &&& (2 ^ 32 - 2 ^ (32 - clampN n)) : Nat) : Int) = (keepN x (clampN n) : Int) := by rw [land_high x _ (by omega) hx]; rfl
  have hle := keepN_le x (clampN n)
  have h0 : 0 < 2 ^ (32 - clampN n) := Nat.two_pow_pos _
  refine Meets.intro Try.func65 rfl (Nat.le_of_ble_eq_true rfl) fun C hC => ?_
  simp only [List.map, argEnv, Nat.reduceAdd]
  refine nK ?_
  refine s_reg rfl ?_
  first | refine Run.pure (dd := some 4) rfl rfl (op_assign rfl (Opd.const _)) ?_ | refine Run.pure (dd := some 4) rfl rfl (op_junk (.inr rfl)) ?_
  refine Run.nil (FinR.mk ?_)
  refine nK ?_
  refine s_reg rfl ?_
  first | refine Run.pure (dd := some 5) rfl rfl (op_move rfl (Opd.tmp _ _ rfl)) ?_ | refine Run.pure (dd := some 5) rfl rfl (op_junk (.inl rfl)) ?_
  first | refine Run.pure (dd := some 6) rfl rfl (op_move rfl (Opd.tmp _ _ rfl)) ?_ | refine Run.pure (dd := some 6) rfl rfl (op_junk (.inl rfl)) ?_
  refine Run.pure (dd := some 7) rfl rfl (op_call_pure (fun _ => mask_any _) rfl (Opd.func _) (Opds.cons _ _ _ _ (Opd.tmp _ _ rfl) Opds.nil)) ?_
  refine Run.pure (dd := some 8) rfl rfl (castP (fun _ => congrArg (IV .u32) hk) (op_bits rfl (Opd.tmp _ _ rfl) (Opd.tmp _ _ rfl) (.inl ⟨rfl, rfl⟩) (by intro _; simp only [IntKind.bits]; omega) (by intro _; simp only [inr, hk]; omega))) ?_
  first | refine Run.pure (dd := some 4) rfl rfl (op_assign rfl (Opd.tmp _ _ rfl)) ?_ | refine Run.pure (dd := some 4) rfl rfl (op_junk (.inr rfl)) ?_
  refine Run.nil (FinR.mk ?_)
  refine nK ?_
  (first | exact s_o1 hC rfl tV | exact s_o2 hC rfl tV tV | exact s_o3 hC rfl tV tV tV | exact s_out0 hC rfl | exact s_outO hC rfl rfl rfl)


theorem valid_any (p : Pfx) (h : p.ok) : Pure Try.prog 54 [.agg (encP p)] (Bf (validB p)) := by
  obtain ⟨h1, h2⟩ := h
  refine Meets.intro Try.func54 rfl (Nat.le_of_ble_eq_true rfl) fun C hC => ?_
  simp only [List.map, argEnv, Nat.reduceAdd]
  refine nK ?_
  refine s_reg rfl ?_
  first | refine Run.eff (dd := some 1) rfl rfl (op_box_flat rfl (Opd.tmp _ _ rfl) tC rfl) ?_ | refine Run.eff (dd := some 1) rfl rfl (op_box_refs rfl (Opd.tmp _ _ rfl) tP rfl) ?_
  first | refine Run.pure (dd := some 2) rfl rfl (op_assign rfl (Opd.const _)) ?_ | refine Run.pure (dd := some 2) rfl rfl (op_junk (.inr rfl)) ?_
  refine Run.nil (FinR.mk ?_)
  refine nK ?_
  refine s_draw mixed ?_
  first | refine Run.pure (dd := some 3) rfl rfl (op_fld_ptr (by decide) rfl (Opd.tmp _ _ rfl)) ?_ | refine Run.pure (dd := some 3) rfl rfl (op_fld_fz (by decide) rfl (Opd.tmp _ _ rfl) tR) ?_
  first | refine Run.load (dd := some 4) rfl rfl (op_load1_flat rfl (Opd.tmp _ _ rfl) tH rfl) ?_ | refine Run.pure (dd := some 4) rfl rfl (op_load1_fz rfl (Opd.tmp _ _ rfl) rfl) ?_ | refine Run.load (dd := some 4) rfl rfl (op_load1_refs rfl (Opd.tmp _ _ rfl) tH rfl) ?_
  refine Run.pure (dd := some 5) rfl rfl (op_geq rfl (Opd.tmp _ _ rfl) (Opd.const _)) ?_
  first | refine Run.pure (dd := some 6) rfl rfl (op_move rfl (Opd.tmp _ _ rfl)) ?_ | refine Run.pure (dd := some 6) rfl rfl (op_junk (.inl rfl)) ?_
  first | refine Run.pureG (dd := some 7) rfl rfl rfl tG (op_fld_ptr (by decide) rfl (Opd.tmp _ _ rfl)) ?_ | refine Run.pureG (dd := some 7) rfl rfl rfl tG (op_fld_fz (by decide) rfl (Opd.tmp _ _ rfl) tR) ?_
  first | refine Run.loadG (dd := some 8) rfl rfl rfl tG (op_load1_flat rfl (Opd.topt _ _ _ rfl tO) tH rfl) ?_ | refine Run.pureG (dd := some 8) rfl rfl rfl tG (op_load1_fz rfl (Opd.topt _ _ _ rfl tO) rfl) ?_ | refine Run.loadG (dd := some 8) rfl rfl rfl tG (op_load1_refs rfl (Opd.topt _ _ _ rfl tO) tH rfl) ?_
  refine Run.pureG (dd := some 9) rfl rfl rfl tG (op_leq rfl (Opd.topt _ _ _ rfl tO) (Opd.const _)) ?_
  refine Run.pure (dd := some 10) rfl rfl (op_pick_and rfl (Opd.tmp _ _ rfl) (Opd.topt _ _ _ rfl tO)) ?_
  first | refine Run.pure (dd := some 11) rfl rfl (op_move rfl (Opd.tmp _ _ rfl)) ?_ | refine Run.pure (dd := some 11) rfl rfl (op_junk (.inl rfl)) ?_
  first | refine Run.pureG (dd := some 12) rfl rfl rfl tG (op_fld_ptr (by decide) rfl (Opd.tmp _ _ rfl)) ?_ | refine Run.pureG (dd := some 12) rfl rfl rfl tG (op_fld_fz (by decide) rfl (Opd.tmp _ _ rfl) tR) ?_
  first | refine Run.loadG (dd := some 13) rfl rfl rfl tG (op_load1_flat rfl (Opd.topt _ _ _ rfl tO) tH rfl) ?_ | refine Run.pureG (dd := some 13) rfl rfl rfl tG (op_load1_fz rfl (Opd.topt _ _ _ rfl tO) rfl) ?_ | refine Run.loadG (dd := some 13) rfl rfl rfl tG (op_load1_refs rfl (Opd.topt _ _ _ rfl tO) tH rfl) ?_
  first | refine Run.pureG (dd := some 14) rfl rfl rfl tG (op_fld_ptr (by decide) rfl (Opd.tmp _ _ rfl)) ?_ | refine Run.pureG (dd := some 14) rfl rfl rfl tG (op_fld_fz (by decide) rfl (Opd.tmp _ _ rfl) tR) ?_
  first | refine Run.loadG (dd := some 15) rfl rfl rfl tG (op_load1_flat rfl (Opd.topt _ _ _ rfl tO) tH rfl) ?_ | refine Run.pureG (dd := some 15) rfl rfl rfl tG (op_load1_fz rfl (Opd.topt _ _ _ rfl tO) rfl) ?_ | refine Run.loadG (dd := some 15) rfl rfl rfl tG (op_load1_refs rfl (Opd.topt _ _ _ rfl tO) tH rfl) ?_
  refine Run.pureG (dd := some 16) rfl rfl rfl tG (op_call_pure (fun _ => keep_any _ _ (by omega)) rfl (Opd.func _) (Opds.cons _ _ _ _ (Opd.topt _ _ _ rfl tO) (Opds.cons _ _ _ _ (Opd.topt _ _ _ rfl tO) Opds.nil))) ?_
  first | refine Run.pureG (dd := some 17) rfl rfl rfl tG (op_fld_ptr (by decide) rfl (Opd.tmp _ _ rfl)) ?_ | refine Run.pureG (dd := some 17) rfl rfl rfl tG (op_fld_fz (by decide) rfl (Opd.tmp _ _ rfl) tR) ?_
  first | refine Run.loadG (dd := some 18) rfl rfl rfl tG (op_load1_flat rfl (Opd.topt _ _ _ rfl tO) tH rfl) ?_ | refine Run.pureG (dd := some 18) rfl rfl rfl tG (op_load1_fz rfl (Opd.topt _ _ _ rfl tO) rfl) ?_ | refine Run.loadG (dd := some 18) rfl rfl rfl tG (op_load1_refs rfl (Opd.topt _ _ _ rfl tO) tH rfl) ?_
  refine Run.pureG (dd := some 19) rfl rfl rfl tG (op_eql rfl (Opd.topt _ _ _ rfl tO) (Opd.topt _ _ _ rfl tO)) ?_
  refine Run.pure (dd := some 20) rfl rfl (op_pick_and rfl (Opd.tmp _ _ rfl) (Opd.topt _ _ _ rfl tO)) ?_
  first | refine Run.pure (dd := some 2) rfl rfl (op_assign rfl (Opd.tmp _ _ rfl)) ?_ | refine Run.pure (dd := some 2) rfl rfl (op_junk (.inr rfl)) ?_
  refine Run.nil (FinD.mk (by kernel_rfl) ?_)
  refine nK ?_
  (first | exact s_o1 hC rfl tV | exact s_o2 hC rfl tV tV | exact s_o3 hC rfl tV tV tV | exact s_out0 hC rfl | exact s_outO hC rfl rfl rfl)
end Go.Proofs.Ytdebjffddkgfbaa
namespace Go.Proofs.Ytdebjffddkgfbaa
open Go Go.RT Go.Proofs Go.Pl
set_option linter.all false
set_option maxRecDepth 20000

theorem of_any (a : Nat) (n : Int) (ha : a < 2 ^ 32) : Pure Try.prog 55 [If .u32 a, If .i64 n] (.agg (encP (ofP a n))) := by
  refine Meets.intro Try.func55 rfl (Nat.le_of_ble_eq_true rfl) fun C hC => ?_
  simp only [List.map, argEnv, Nat.reduceAdd]
  refine nK ?_
  refine s_reg rfl ?_
  refine Run.eff (dd := some 4) rfl rfl (op_alloc rfl rfl rfl rfl) ?_
  refine Run.nil (FinR.mk ?_)
  refine nK ?_
  refine s_reg rfl ?_
  first | refine Run.pure (dd := some 5) rfl rfl (op_move rfl (Opd.tmp _ _ rfl)) ?_ | refine Run.pure (dd := some 5) rfl rfl (op_junk (.inl rfl)) ?_
  first | refine Run.pure (dd := some 6) rfl rfl (op_move rfl (Opd.tmp _ _ rfl)) ?_ | refine Run.pure (dd := some 6) rfl rfl (op_junk (.inl rfl)) ?_
  refine Run.pure (dd := some 7) rfl rfl (op_call_pure (fun _ => keep_any _ _ (by omega)) rfl (Opd.func _) (Opds.cons _ _ _ _ (Opd.tmp _ _ rfl) (Opds.cons _ _ _ _ (Opd.tmp _ _ rfl) Opds.nil))) ?_
  first | refine Run.pure (dd := some 8) rfl rfl (op_move rfl (Opd.tmp _ _ rfl)) ?_ | refine Run.pure (dd := some 8) rfl rfl (op_junk (.inl rfl)) ?_
  first | refine Run.pure (dd := some 9) rfl rfl (op_build rfl rfl rfl (FillF.cons _ _ _ _ _ _ _ _ _ _ (by rfl) (Opd.tmp _ _ rfl) tC (by rfl) tR (FillF.cons _ _ _ _ _ _ _ _ _ _ (by rfl) (Opd.tmp _ _ rfl) tC (by rfl) tR (FillF.nil _)))) ?_ | refine Run.pure (dd := some 9) rfl rfl (op_buildP rfl rfl rfl rfl (FillP.cons _ _ _ _ _ _ _ _ _ _ (by rfl) (Opd.tmp _ _ rfl) tP (by rfl) tR (FillP.cons _ _ _ _ _ _ _ _ _ _ (by rfl) (Opd.tmp _ _ rfl) tP (by rfl) tR (FillP.nil _)))) ?_
  first | refine Run.eff (dd := none) rfl rfl (op_store_flat rfl (Opd.tmp _ _ rfl) (Opd.tmp _ _ rfl) tC rfl rfl (by first | rfl | assumption) tS) ?_ | refine Run.eff (dd := none) rfl rfl (op_store_refs rfl (Opd.tmp _ _ rfl) (Opd.tmp _ _ rfl) tP rfl rfl rfl tS) ?_
  refine Run.nil (FinR.mk ?_)
  refine nK ?_
  (first | exact s_o1 hC rfl tV | exact s_o2 hC rfl tV tV | exact s_o3 hC rfl tV tV tV | exact s_out0 hC rfl | exact s_outO hC rfl rfl rfl)

theorem contains_any (p : Pfx) (a : Nat) (hp : p.ok) (ha : a < 2 ^ 32) : Pure Try.prog 37 [.agg (encP p), If .u32 a] (Bf (containsB p a)) := by
  have hp2 := hp
  obtain ⟨h1, h2⟩ := hp
  refine Meets.intro Try.func37 rfl (Nat.le_of_ble_eq_true rfl) fun C hC => ?_
  simp only [List.map, argEnv, Nat.reduceAdd]
  refine nK ?_
  refine s_reg rfl ?_
  first | refine Run.eff (dd := some 2) rfl rfl (op_box_flat rfl (Opd.tmp _ _ rfl) tC rfl) ?_ | refine Run.eff (dd := some 2) rfl rfl (op_box_refs rfl (Opd.tmp _ _ rfl) tP rfl) ?_
  first | refine Run.pure (dd := some 4) rfl rfl (op_assign rfl (Opd.const _)) ?_ | refine Run.pure (dd := some 4) rfl rfl (op_junk (.inr rfl)) ?_
  refine Run.nil (FinR.mk ?_)
  refine nK ?_
  refine s_draw mixed ?_
  first | refine Run.load (dd := some 5) rfl rfl (op_loadw_flat rfl (Opd.tmp _ _ rfl) tH rfl) ?_ | refine Run.pure (dd := some 5) rfl rfl (op_loadw_fz rfl (Opd.tmp _ _ rfl) rfl) ?_ | refine Run.load (dd := some 5) rfl rfl (op_loadn_flat rfl (Opd.tmp _ _ rfl) tH tR tR) ?_ | refine Run.pure (dd := some 5) rfl rfl (op_loadn_fz rfl (Opd.tmp _ _ rfl) tR) ?_ | refine Run.load (dd := some 5) rfl rfl (op_loadn_refs rfl (Opd.tmp _ _ rfl) tH tR tR) ?_
  refine Run.pure (dd := some 6) rfl rfl (op_call_pure (fun _ => valid_any _ hp2) rfl (Opd.func _) (Opds.cons _ _ _ _ (Opd.tmp _ _ rfl) Opds.nil)) ?_
  first | refine Run.pure (dd := some 7) rfl rfl (op_move rfl (Opd.tmp _ _ rfl)) ?_ | refine Run.pure (dd := some 7) rfl rfl (op_junk (.inl rfl)) ?_
  first | refine Run.pureG (dd := some 8) rfl rfl rfl tG (op_move rfl (Opd.tmp _ _ rfl)) ?_ | refine Run.pureG (dd := some 8) rfl rfl rfl tG (op_junk (.inl rfl)) ?_
  first | refine Run.pureG (dd := some 9) rfl rfl rfl tG (op_fld_ptr (by decide) rfl (Opd.tmp _ _ rfl)) ?_ | refine Run.pureG (dd := some 9) rfl rfl rfl tG (op_fld_fz (by decide) rfl (Opd.tmp _ _ rfl) tR) ?_
  first | refine Run.loadG (dd := some 10) rfl rfl rfl tG (op_load1_flat rfl (Opd.topt _ _ _ rfl tO) tH rfl) ?_ | refine Run.pureG (dd := some 10) rfl rfl rfl tG (op_load1_fz rfl (Opd.topt _ _ _ rfl tO) rfl) ?_ | refine Run.loadG (dd := some 10) rfl rfl rfl tG (op_load1_refs rfl (Opd.topt _ _ _ rfl tO) tH rfl) ?_
  refine Run.pureG (dd := some 11) rfl rfl rfl tG (op_call_pure (fun _ => of_any _ _ (by omega)) rfl (Opd.func _) (Opds.cons _ _ _ _ (Opd.topt _ _ _ rfl tO) (Opds.cons _ _ _ _ (Opd.topt _ _ _ rfl tO) Opds.nil))) ?_
  first | refine Run.loadG (dd := some 12) rfl rfl rfl tG (op_loadw_flat rfl (Opd.tmp _ _ rfl) tH rfl) ?_ | refine Run.pureG (dd := some 12) rfl rfl rfl tG (op_loadw_fz rfl (Opd.tmp _ _ rfl) rfl) ?_ | refine Run.loadG (dd := some 12) rfl rfl rfl tG (op_loadn_flat rfl (Opd.tmp _ _ rfl) tH tR tR) ?_ | refine Run.pureG (dd := some 12) rfl rfl rfl tG (op_loadn_fz rfl (Opd.tmp _ _ rfl) tR) ?_ | refine Run.loadG (dd := some 12) rfl rfl rfl tG (op_loadn_refs rfl (Opd.tmp _ _ rfl) tH tR tR) ?_
  refine Run.pureG (dd := some 13) rfl rfl rfl tG (op_eqS rfl (Opd.topt _ _ _ rfl tO) (Opd.topt _ _ _ rfl tO) (by kernel_rfl)) ?_
  refine Run.pure (dd := some 14) rfl rfl (op_pick_and rfl (Opd.tmp _ _ rfl) (Opd.topt _ _ _ rfl tO)) ?_
  first | refine Run.pure (dd := some 4) rfl rfl (op_assign rfl (Opd.tmp _ _ rfl)) ?_ | refine Run.pure (dd := some 4) rfl rfl (op_junk (.inr rfl)) ?_
  refine Run.nil (FinD.mk (by kernel_rfl) ?_)
  refine nK ?_
  (first | exact s_o1 hC rfl tV | exact s_o2 hC rfl tV tV | exact s_o3 hC rfl tV tV tV | exact s_out0 hC rfl | exact s_outO hC rfl rfl rfl)

theorem low_any (n most : Int) : Pure Try.prog 56 [If .i64 n, If .i64 most] (If .i64 (min (max n 0) most)) := by
  refine Meets.intro Try.func56 rfl (Nat.le_of_ble_eq_true rfl) fun C hC => ?_
  simp only [List.map, argEnv, Nat.reduceAdd]
  refine nK ?_
  refine s_reg rfl ?_
  first | refine Run.pure (dd := some 4) rfl rfl (op_assign rfl (Opd.const _)) ?_ | refine Run.pure (dd := some 4) rfl rfl (op_junk (.inr rfl)) ?_
  refine Run.nil (FinR.mk ?_)
  refine nK ?_
  refine s_reg rfl ?_
  first | refine Run.pure (dd := some 5) rfl rfl (op_move rfl (Opd.tmp _ _ rfl)) ?_ | refine Run.pure (dd := some 5) rfl rfl (op_junk (.inl rfl)) ?_
  refine Run.pure (dd := some 6) rfl rfl (op_max rfl (Opd.tmp _ _ rfl) (Opd.const _)) ?_
  first | refine Run.pure (dd := some 7) rfl rfl (op_move rfl (Opd.tmp _ _ rfl)) ?_ | refine Run.pure (dd := some 7) rfl rfl (op_junk (.inl rfl)) ?_
  refine Run.pure (dd := some 8) rfl rfl (op_min rfl (Opd.tmp _ _ rfl) (Opd.tmp _ _ rfl)) ?_
  first | refine Run.pure (dd := some 4) rfl rfl (op_assign rfl (Opd.tmp _ _ rfl)) ?_ | refine Run.pure (dd := some 4) rfl rfl (op_junk (.inr rfl)) ?_
  refine Run.nil (FinR.mk ?_)
  refine nK ?_
  (first | exact s_o1 hC rfl tV | exact s_o2 hC rfl tV tV | exact s_o3 hC rfl tV tV tV | exact s_out0 hC rfl | exact s_outO hC rfl rfl rfl)
end Go.Proofs.Ytdebjffddkgfbaa
namespace Go.Proofs.Ytdebjffddkgfbaa
open Go Go.RT Go.Proofs Go.Pl
set_option linter.all false
set_option maxRecDepth 20000

theorem low32_any (n : Int) : Pure Try.prog 56 [If .i64 n, If .i64 32] (If .i64 (clampN n)) := by
  rw [← clampN_int]; exact low_any n 32

theorem at_any (x i : Nat) (hx : x < 2 ^ 32) (hi : i < 32) : Pure Try.prog 57 [If .u32 x, If .i64 i] (If .i64 ((x / 2 ^ (31 - i) % 2 : Nat) : Int)) := by
  have hd : x / 2 ^ (31 - i) ≤ x := Nat.div_le_self _ _
  have hm : x / 2 ^ (31 - i) % 2 < 2 := Nat.mod_lt _ (by omega)
  refine Meets.intro Try.func57 rfl (Nat.le_of_ble_eq_true rfl) fun C hC => ?_
  simp only [List.map, argEnv, Nat.reduceAdd]
  refine nK ?_
  refine s_reg rfl ?_
  first | refine Run.pure (dd := some 4) rfl rfl (op_assign rfl (Opd.const _)) ?_ | refine Run.pure (dd := some 4) rfl rfl (op_junk (.inr rfl)) ?_
  refine Run.nil (FinR.mk ?_)
  refine nK ?_
  refine s_reg rfl ?_
  first | refine Run.pure (dd := some 5) rfl rfl (op_move rfl (Opd.tmp _ _ rfl)) ?_ | refine Run.pure (dd := some 5) rfl rfl (op_junk (.inl rfl)) ?_
  refine Run.pure (dd := some 6) rfl rfl (op_lss rfl (Opd.tmp _ _ rfl) (Opd.const _)) ?_
  first | refine Run.pure (dd := some 7) rfl rfl (op_move rfl (Opd.tmp _ _ rfl)) ?_ | refine Run.pure (dd := some 7) rfl rfl (op_junk (.inl rfl)) ?_
  first | refine Run.pureG (dd := some 8) rfl rfl rfl tG (op_move rfl (Opd.tmp _ _ rfl)) ?_ | refine Run.pureG (dd := some 8) rfl rfl rfl tG (op_junk (.inl rfl)) ?_
  refine Run.pureG (dd := some 9) rfl rfl rfl tG (op_gtr rfl (Opd.topt _ _ _ rfl tO) (Opd.const _)) ?_
  refine Run.pure (dd := some 10) rfl rfl (op_pick_or rfl (Opd.tmp _ _ rfl) (Opd.topt _ _ _ rfl tO)) ?_
  refine Run.nil (FinR.mk ?_)
  refine nK ?_
  refine n_cond _ rfl (fun hb => ?_) (fun hb => ?_)
  · exfalso; simp at hb; omega
  refine nK ?_
  refine s_reg rfl ?_
  first | refine Run.pure (dd := some 11) rfl rfl (op_move rfl (Opd.tmp _ _ rfl)) ?_ | refine Run.pure (dd := some 11) rfl rfl (op_junk (.inl rfl)) ?_
  first | refine Run.pure (dd := some 12) rfl rfl (op_move rfl (Opd.tmp _ _ rfl)) ?_ | refine Run.pure (dd := some 12) rfl rfl (op_junk (.inl rfl)) ?_
  refine Run.pure (dd := some 13) rfl rfl (op_sub rfl (Opd.const _) (Opd.tmp _ _ rfl) tI) ?_
  refine Run.pure (dd := some 14) rfl rfl (op_conv rfl (Opd.tmp _ _ rfl) tI) ?_
  refine Run.pure (dd := some 15) rfl rfl (op_shrN (31 - i) rfl (Opd.tmp _ _ rfl) (Opd.tmp _ _ rfl) (by intro _; simp only [IntKind.bits]; omega)) ?_
  refine Run.pure (dd := some 16) rfl rfl (op_and1 rfl (Opd.tmp _ _ rfl) (Opd.const _) (by intro _; simp only [IntKind.bits]; omega) (by simp [IntKind.bits])) ?_
  refine Run.pure (dd := some 17) rfl rfl (op_conv rfl (Opd.tmp _ _ rfl) tI) ?_
  first | refine Run.pure (dd := some 4) rfl rfl (op_assign rfl (Opd.tmp _ _ rfl)) ?_ | refine Run.pure (dd := some 4) rfl rfl (op_junk (.inr rfl)) ?_
  refine Run.nil (FinR.mk ?_)
  refine nK ?_
  (first | exact s_o1 hC rfl tV | exact s_o2 hC rfl tV tV | exact s_o3 hC rfl tV tV tV | exact s_out0 hC rfl | exact s_outO hC rfl rfl rfl)

theorem rkeep_any (x : Nat) (n : Int) (hx : x < 2 ^ 32) : Pure Try.prog 39 [If .u32 x, If .i64 n] (If .u32 (keepN x (clampN n))) := by
  have hl := clampN_le n
  refine Meets.intro Try.func39 rfl (Nat.le_of_ble_eq_true rfl) fun C hC => ?_
  simp only [List.map, argEnv, Nat.reduceAdd]
  refine nK ?_
  refine s_reg rfl ?_
  first | refine Run.pure (dd := some 4) rfl rfl (op_assign rfl (Opd.const _)) ?_ | refine Run.pure (dd := some 4) rfl rfl (op_junk (.inr rfl)) ?_
  refine Run.nil (FinR.mk ?_)
  refine nK ?_
  refine s_reg rfl ?_
  first | refine Run.pure (dd := some 5) rfl rfl (op_assign rfl (Opd.const _)) ?_ | refine Run.pure (dd := some 5) rfl rfl (op_junk (.inr rfl)) ?_
  refine Run.nil (FinR.mk ?_)
  refine nK ?_
  refine s_reg rfl ?_
  first | refine Run.pure (dd := some 7) rfl rfl (op_move rfl (Opd.tmp _ _ rfl)) ?_ | refine Run.pure (dd := some 7) rfl rfl (op_junk (.inl rfl)) ?_
  refine Run.pure (dd := some 8) rfl rfl (op_call_pure (fun _ => low32_any _) rfl (Opd.func _) (Opds.cons _ _ _ _ (Opd.tmp _ _ rfl) (Opds.cons _ _ _ _ (Opd.const _) Opds.nil))) ?_
  first | refine Run.pure (dd := some 9) rfl rfl (op_move rfl (Opd.const _)) ?_ | refine Run.pure (dd := some 9) rfl rfl (op_junk (.inl rfl)) ?_
  refine Run.nil (FinR.mk ?_)
  refine nK ?_
  refine n_loop (ι := Nat) (fun i => ([(0, IV .u32 x), (5, IV .u32 (keepN x i)), (8, IV .i64 (clampN n)), (9, IV .i64 i)], [], 0)) (fun i => i ≤ clampN n) (fun i => clampN n - i) 0 (Nat.zero_le _) ?_ ?_
  · have h0 := keep_zero x hx
    rw [h0]
    refine Next.weak [] [] (by rfl) (keeps0 hC _) (by repeat (first | exact trivial | refine ⟨⟨_, rfl, .inl ⟨rfl, rfl⟩⟩, ?_⟩)) (by repeat (first | exact trivial | refine ⟨⟨rfl, rfl, rfl, tL⟩, ?_⟩)) (fun _ h => by simp at h) rel_intro
  · intro i hi K hK
    refine nK ?_
    refine s_reg rfl ?_
    refine Run.pure (dd := some 10) rfl rfl (op_lss rfl (Opd.tmp _ _ rfl) (Opd.tmp _ _ rfl)) ?_
    refine Run.nil (FinR.mk ?_)
    refine nK ?_
    refine n_cond _ rfl (fun hb => ?_) (fun hb => ?_)
    · have hlt : i < clampN n := by simp at hb; omega
      have hk := keep_succ x i (by omega)
      have hle := keepN_le x i
      have hle2 := keepN_le x (i + 1)
      have hm : x / 2 ^ (31 - i) % 2 < 2 := Nat.mod_lt _ (by omega)
      have hp : 2 ^ (31 - i) ≤ 2 ^ 31 := Nat.pow_le_pow_right (by omega) (by omega)
      have hmul : x / 2 ^ (31 - i) % 2 * 2 ^ (31 - i) ≤ 1 * 2 ^ 31 := Nat.mul_le_mul (by omega) hp
      refine nK ?_
      refine s_reg rfl ?_
      first | refine Run.pure (dd := some 11) rfl rfl (op_move rfl (Opd.tmp _ _ rfl)) ?_ | refine Run.pure (dd := some 11) rfl rfl (op_junk (.inl rfl)) ?_
      first | refine Run.pure (dd := some 6) rfl rfl (op_assign rfl (Opd.tmp _ _ rfl)) ?_ | refine Run.pure (dd := some 6) rfl rfl (op_junk (.inr rfl)) ?_
      refine Run.nil (FinR.mk ?_)
      refine nK ?_
      refine s_reg rfl ?_
      first | refine Run.pure (dd := some 12) rfl rfl (op_move rfl (Opd.tmp _ _ rfl)) ?_ | refine Run.pure (dd := some 12) rfl rfl (op_junk (.inl rfl)) ?_
      first | refine Run.pure (dd := some 13) rfl rfl (op_move rfl (Opd.tmp _ _ rfl)) ?_ | refine Run.pure (dd := some 13) rfl rfl (op_junk (.inl rfl)) ?_
      first | refine Run.pure (dd := some 14) rfl rfl (op_move rfl (Opd.tmp _ _ rfl)) ?_ | refine Run.pure (dd := some 14) rfl rfl (op_junk (.inl rfl)) ?_
      refine Run.pure (dd := some 15) rfl rfl (op_call_pure (fun _ => at_any _ _ (by omega) (by omega)) rfl (Opd.func _) (Opds.cons _ _ _ _ (Opd.tmp _ _ rfl) (Opds.cons _ _ _ _ (Opd.tmp _ _ rfl) Opds.nil))) ?_
      refine Run.pure (dd := some 16) rfl rfl (op_conv rfl (Opd.tmp _ _ rfl) tI) ?_
      first | refine Run.pure (dd := some 17) rfl rfl (op_move rfl (Opd.tmp _ _ rfl)) ?_ | refine Run.pure (dd := some 17) rfl rfl (op_junk (.inl rfl)) ?_
      refine Run.pure (dd := some 18) rfl rfl (op_sub rfl (Opd.const _) (Opd.tmp _ _ rfl) tI) ?_
      refine Run.pure (dd := some 19) rfl rfl (op_conv rfl (Opd.tmp _ _ rfl) tI) ?_
      refine Run.pure (dd := some 20) rfl rfl (op_shlN (31 - i) rfl (Opd.tmp _ _ rfl) (Opd.tmp _ _ rfl) (by intro _; simp only [IntKind.bits, inr]; omega)) ?_
      refine Run.pure (dd := some 21) rfl rfl (castP (fun _ => congrArg (fun z : Nat => IV .u32 z) hk) (op_bits rfl (Opd.tmp _ _ rfl) (Opd.tmp _ _ rfl) (.inr (.inl ⟨rfl, rfl⟩)) (by intro _; simp only [IntKind.bits]; omega) (by intro _; simp only [inr, hk]; omega))) ?_
      first | refine Run.pure (dd := some 5) rfl rfl (op_assign rfl (Opd.tmp _ _ rfl)) ?_ | refine Run.pure (dd := some 5) rfl rfl (op_junk (.inr rfl)) ?_
      refine Run.nil (FinR.mk ?_)
      refine nK ?_
      refine s_reg rfl ?_
      refine Run.pure (dd := some 22) rfl rfl (op_add rfl (Opd.tmp _ _ rfl) (Opd.const _) tI) ?_
      first | refine Run.pure (dd := some 9) rfl rfl (op_move rfl (Opd.tmp _ _ rfl)) ?_ | refine Run.pure (dd := some 9) rfl rfl (op_junk (.inl rfl)) ?_
      refine Run.nil (FinR.mk ?_)
      refine nK ?_
      refine Next.weak [] [] (by rfl) (keeps0 hC _) (by repeat (first | exact trivial | refine ⟨⟨_, rfl, .inl ⟨rfl, rfl⟩⟩, ?_⟩)) (by repeat (first | exact trivial | refine ⟨⟨rfl, rfl, rfl, tL⟩, ?_⟩)) (fun _ h => by simp at h) (hK (i + 1) (by omega) (by omega))
    · have he : i = clampN n := by simp at hb; omega
      subst he
      refine nK ?_
      refine s_reg rfl ?_
      first | refine Run.pure (dd := some 23) rfl rfl (op_move rfl (Opd.tmp _ _ rfl)) ?_ | refine Run.pure (dd := some 23) rfl rfl (op_junk (.inl rfl)) ?_
      first | refine Run.pure (dd := some 4) rfl rfl (op_assign rfl (Opd.tmp _ _ rfl)) ?_ | refine Run.pure (dd := some 4) rfl rfl (op_junk (.inr rfl)) ?_
      refine Run.nil (FinR.mk ?_)
      refine nK ?_
      (first | exact s_o1 hC rfl tV | exact s_o2 hC rfl tV tV | exact s_o3 hC rfl tV tV tV | exact s_out0 hC rfl | exact s_outO hC rfl rfl rfl)
end Go.Proofs.Ytdebjffddkgfbaa
namespace Go.Proofs.Ytdebjffddkgfbaa
open Go Go.RT Go.Proofs Go.Pl
set_option linter.all false
set_option maxRecDepth 20000

theorem make_any (a : Nat) (n : Int) (ha : a < 2 ^ 32) : Pure Try.prog 58 [If .u32 a, If .i64 n] (.agg (encP (ofP a n))) := by
  refine Meets.intro Try.func58 rfl (Nat.le_of_ble_eq_true rfl) fun C hC => ?_
  simp only [List.map, argEnv, Nat.reduceAdd]
  refine nK ?_
  refine s_reg rfl ?_
  refine Run.eff (dd := some 4) rfl rfl (op_alloc rfl rfl rfl rfl) ?_
  refine Run.nil (FinR.mk ?_)
  refine nK ?_
  refine s_reg rfl ?_
  first | refine Run.pure (dd := some 5) rfl rfl (op_move rfl (Opd.tmp _ _ rfl)) ?_ | refine Run.pure (dd := some 5) rfl rfl (op_junk (.inl rfl)) ?_
  first | refine Run.pure (dd := some 6) rfl rfl (op_move rfl (Opd.tmp _ _ rfl)) ?_ | refine Run.pure (dd := some 6) rfl rfl (op_junk (.inl rfl)) ?_
  refine Run.pure (dd := some 7) rfl rfl (op_call_pure (fun _ => rkeep_any _ _ (by omega)) rfl (Opd.func _) (Opds.cons _ _ _ _ (Opd.tmp _ _ rfl) (Opds.cons _ _ _ _ (Opd.tmp _ _ rfl) Opds.nil))) ?_
  first | refine Run.pure (dd := some 8) rfl rfl (op_move rfl (Opd.tmp _ _ rfl)) ?_ | refine Run.pure (dd := some 8) rfl rfl (op_junk (.inl rfl)) ?_
  first | refine Run.pure (dd := some 9) rfl rfl (op_build rfl rfl rfl (FillF.cons _ _ _ _ _ _ _ _ _ _ (by rfl) (Opd.tmp _ _ rfl) tC (by rfl) tR (FillF.cons _ _ _ _ _ _ _ _ _ _ (by rfl) (Opd.tmp _ _ rfl) tC (by rfl) tR (FillF.nil _)))) ?_ | refine Run.pure (dd := some 9) rfl rfl (op_buildP rfl rfl rfl rfl (FillP.cons _ _ _ _ _ _ _ _ _ _ (by rfl) (Opd.tmp _ _ rfl) tP (by rfl) tR (FillP.cons _ _ _ _ _ _ _ _ _ _ (by rfl) (Opd.tmp _ _ rfl) tP (by rfl) tR (FillP.nil _)))) ?_
  first | refine Run.eff (dd := none) rfl rfl (op_store_flat rfl (Opd.tmp _ _ rfl) (Opd.tmp _ _ rfl) tC rfl rfl (by first | rfl | assumption) tS) ?_ | refine Run.eff (dd := none) rfl rfl (op_store_refs rfl (Opd.tmp _ _ rfl) (Opd.tmp _ _ rfl) tP rfl rfl rfl tS) ?_
  refine Run.nil (FinR.mk ?_)
  refine nK ?_
  (first | exact s_o1 hC rfl tV | exact s_o2 hC rfl tV tV | exact s_o3 hC rfl tV tV tV | exact s_out0 hC rfl | exact s_outO hC rfl rfl rfl)
theorem rvalid_any (p : Pfx) (h : p.ok) : Pure Try.prog 16 [.agg (encP p)] (Bf (validB p)) := by
  obtain ⟨h1, h2⟩ := h
  refine Meets.intro Try.func16 rfl (Nat.le_of_ble_eq_true rfl) fun C hC => ?_
  simp only [List.map, argEnv, Nat.reduceAdd]
  refine nK ?_
  refine s_reg rfl ?_
  first | refine Run.eff (dd := some 1) rfl rfl (op_box_flat rfl (Opd.tmp _ _ rfl) tC rfl) ?_ | refine Run.eff (dd := some 1) rfl rfl (op_box_refs rfl (Opd.tmp _ _ rfl) tP rfl) ?_
  first | refine Run.pure (dd := some 2) rfl rfl (op_assign rfl (Opd.const _)) ?_ | refine Run.pure (dd := some 2) rfl rfl (op_junk (.inr rfl)) ?_
  refine Run.nil (FinR.mk ?_)
  refine nK ?_
  refine s_draw mixed ?_
  first | refine Run.pure (dd := some 3) rfl rfl (op_fld_ptr (by decide) rfl (Opd.tmp _ _ rfl)) ?_ | refine Run.pure (dd := some 3) rfl rfl (op_fld_fz (by decide) rfl (Opd.tmp _ _ rfl) tR) ?_
  first | refine Run.load (dd := some 4) rfl rfl (op_load1_flat rfl (Opd.tmp _ _ rfl) tH rfl) ?_ | refine Run.pure (dd := some 4) rfl rfl (op_load1_fz rfl (Opd.tmp _ _ rfl) rfl) ?_ | refine Run.load (dd := some 4) rfl rfl (op_load1_refs rfl (Opd.tmp _ _ rfl) tH rfl) ?_
  refine Run.pure (dd := some 5) rfl rfl (op_geq rfl (Opd.tmp _ _ rfl) (Opd.const _)) ?_
  first | refine Run.pure (dd := some 6) rfl rfl (op_move rfl (Opd.tmp _ _ rfl)) ?_ | refine Run.pure (dd := some 6) rfl rfl (op_junk (.inl rfl)) ?_
  first | refine Run.pureG (dd := some 7) rfl rfl rfl tG (op_fld_ptr (by decide) rfl (Opd.tmp _ _ rfl)) ?_ | refine Run.pureG (dd := some 7) rfl rfl rfl tG (op_fld_fz (by decide) rfl (Opd.tmp _ _ rfl) tR) ?_
  first | refine Run.loadG (dd := some 8) rfl rfl rfl tG (op_load1_flat rfl (Opd.topt _ _ _ rfl tO) tH rfl) ?_ | refine Run.pureG (dd := some 8) rfl rfl rfl tG (op_load1_fz rfl (Opd.topt _ _ _ rfl tO) rfl) ?_ | refine Run.loadG (dd := some 8) rfl rfl rfl tG (op_load1_refs rfl (Opd.topt _ _ _ rfl tO) tH rfl) ?_
  refine Run.pureG (dd := some 9) rfl rfl rfl tG (op_leq rfl (Opd.topt _ _ _ rfl tO) (Opd.const _)) ?_
  refine Run.pure (dd := some 10) rfl rfl (op_pick_and rfl (Opd.tmp _ _ rfl) (Opd.topt _ _ _ rfl tO)) ?_
  first | refine Run.pure (dd := some 11) rfl rfl (op_move rfl (Opd.tmp _ _ rfl)) ?_ | refine Run.pure (dd := some 11) rfl rfl (op_junk (.inl rfl)) ?_
  first | refine Run.pureG (dd := some 12) rfl rfl rfl tG (op_fld_ptr (by decide) rfl (Opd.tmp _ _ rfl)) ?_ | refine Run.pureG (dd := some 12) rfl rfl rfl tG (op_fld_fz (by decide) rfl (Opd.tmp _ _ rfl) tR) ?_
  first | refine Run.loadG (dd := some 13) rfl rfl rfl tG (op_load1_flat rfl (Opd.topt _ _ _ rfl tO) tH rfl) ?_ | refine Run.pureG (dd := some 13) rfl rfl rfl tG (op_load1_fz rfl (Opd.topt _ _ _ rfl tO) rfl) ?_ | refine Run.loadG (dd := some 13) rfl rfl rfl tG (op_load1_refs rfl (Opd.topt _ _ _ rfl tO) tH rfl) ?_
  first | refine Run.pureG (dd := some 14) rfl rfl rfl tG (op_fld_ptr (by decide) rfl (Opd.tmp _ _ rfl)) ?_ | refine Run.pureG (dd := some 14) rfl rfl rfl tG (op_fld_fz (by decide) rfl (Opd.tmp _ _ rfl) tR) ?_
  first | refine Run.loadG (dd := some 15) rfl rfl rfl tG (op_load1_flat rfl (Opd.topt _ _ _ rfl tO) tH rfl) ?_ | refine Run.pureG (dd := some 15) rfl rfl rfl tG (op_load1_fz rfl (Opd.topt _ _ _ rfl tO) rfl) ?_ | refine Run.loadG (dd := some 15) rfl rfl rfl tG (op_load1_refs rfl (Opd.topt _ _ _ rfl tO) tH rfl) ?_
  refine Run.pureG (dd := some 16) rfl rfl rfl tG (op_call_pure (fun _ => rkeep_any _ _ (by omega)) rfl (Opd.func _) (Opds.cons _ _ _ _ (Opd.topt _ _ _ rfl tO) (Opds.cons _ _ _ _ (Opd.topt _ _ _ rfl tO) Opds.nil))) ?_
  first | refine Run.pureG (dd := some 17) rfl rfl rfl tG (op_fld_ptr (by decide) rfl (Opd.tmp _ _ rfl)) ?_ | refine Run.pureG (dd := some 17) rfl rfl rfl tG (op_fld_fz (by decide) rfl (Opd.tmp _ _ rfl) tR) ?_
  first | refine Run.loadG (dd := some 18) rfl rfl rfl tG (op_load1_flat rfl (Opd.topt _ _ _ rfl tO) tH rfl) ?_ | refine Run.pureG (dd := some 18) rfl rfl rfl tG (op_load1_fz rfl (Opd.topt _ _ _ rfl tO) rfl) ?_ | refine Run.loadG (dd := some 18) rfl rfl rfl tG (op_load1_refs rfl (Opd.topt _ _ _ rfl tO) tH rfl) ?_
  refine Run.pureG (dd := some 19) rfl rfl rfl tG (op_eql rfl (Opd.topt _ _ _ rfl tO) (Opd.topt _ _ _ rfl tO)) ?_
  refine Run.pure (dd := some 20) rfl rfl (op_pick_and rfl (Opd.tmp _ _ rfl) (Opd.topt _ _ _ rfl tO)) ?_
  first | refine Run.pure (dd := some 2) rfl rfl (op_assign rfl (Opd.tmp _ _ rfl)) ?_ | refine Run.pure (dd := some 2) rfl rfl (op_junk (.inr rfl)) ?_
  refine Run.nil (FinD.mk (by kernel_rfl) ?_)
  refine nK ?_
  (first | exact s_o1 hC rfl tV | exact s_o2 hC rfl tV tV | exact s_o3 hC rfl tV tV tV | exact s_out0 hC rfl | exact s_outO hC rfl rfl rfl)
theorem rcontains_any (p : Pfx) (a : Nat) (hp : p.ok) (ha : a < 2 ^ 32) : Pure Try.prog 40 [.agg (encP p), If .u32 a] (Bf (containsB p a)) := by
  have hp2 := hp
  obtain ⟨h1, h2⟩ := hp
  refine Meets.intro Try.func40 rfl (Nat.le_of_ble_eq_true rfl) fun C hC => ?_
  simp only [List.map, argEnv, Nat.reduceAdd]
  refine nK ?_
  refine s_reg rfl ?_
  first | refine Run.eff (dd := some 2) rfl rfl (op_box_flat rfl (Opd.tmp _ _ rfl) tC rfl) ?_ | refine Run.eff (dd := some 2) rfl rfl (op_box_refs rfl (Opd.tmp _ _ rfl) tP rfl) ?_
  first | refine Run.pure (dd := some 4) rfl rfl (op_assign rfl (Opd.const _)) ?_ | refine Run.pure (dd := some 4) rfl rfl (op_junk (.inr rfl)) ?_
  refine Run.nil (FinR.mk ?_)
  refine nK ?_
  refine s_draw mixed ?_
  first | refine Run.load (dd := some 5) rfl rfl (op_loadw_flat rfl (Opd.tmp _ _ rfl) tH rfl) ?_ | refine Run.pure (dd := some 5) rfl rfl (op_loadw_fz rfl (Opd.tmp _ _ rfl) rfl) ?_ | refine Run.load (dd := some 5) rfl rfl (op_loadn_flat rfl (Opd.tmp _ _ rfl) tH tR tR) ?_ | refine Run.pure (dd := some 5) rfl rfl (op_loadn_fz rfl (Opd.tmp _ _ rfl) tR) ?_ | refine Run.load (dd := some 5) rfl rfl (op_loadn_refs rfl (Opd.tmp _ _ rfl) tH tR tR) ?_
  refine Run.pure (dd := some 6) rfl rfl (op_call_pure (fun _ => rvalid_any _ hp2) rfl (Opd.func _) (Opds.cons _ _ _ _ (Opd.tmp _ _ rfl) Opds.nil)) ?_
  first | refine Run.pure (dd := some 7) rfl rfl (op_move rfl (Opd.tmp _ _ rfl)) ?_ | refine Run.pure (dd := some 7) rfl rfl (op_junk (.inl rfl)) ?_
  first | refine Run.pureG (dd := some 8) rfl rfl rfl tG (op_move rfl (Opd.tmp _ _ rfl)) ?_ | refine Run.pureG (dd := some 8) rfl rfl rfl tG (op_junk (.inl rfl)) ?_
  first | refine Run.pureG (dd := some 9) rfl rfl rfl tG (op_fld_ptr (by decide) rfl (Opd.tmp _ _ rfl)) ?_ | refine Run.pureG (dd := some 9) rfl rfl rfl tG (op_fld_fz (by decide) rfl (Opd.tmp _ _ rfl) tR) ?_
  first | refine Run.loadG (dd := some 10) rfl rfl rfl tG (op_load1_flat rfl (Opd.topt _ _ _ rfl tO) tH rfl) ?_ | refine Run.pureG (dd := some 10) rfl rfl rfl tG (op_load1_fz rfl (Opd.topt _ _ _ rfl tO) rfl) ?_ | refine Run.loadG (dd := some 10) rfl rfl rfl tG (op_load1_refs rfl (Opd.topt _ _ _ rfl tO) tH rfl) ?_
  refine Run.pureG (dd := some 11) rfl rfl rfl tG (op_call_pure (fun _ => make_any _ _ (by omega)) rfl (Opd.func _) (Opds.cons _ _ _ _ (Opd.topt _ _ _ rfl tO) (Opds.cons _ _ _ _ (Opd.topt _ _ _ rfl tO) Opds.nil))) ?_
  first | refine Run.loadG (dd := some 12) rfl rfl rfl tG (op_loadw_flat rfl (Opd.tmp _ _ rfl) tH rfl) ?_ | refine Run.pureG (dd := some 12) rfl rfl rfl tG (op_loadw_fz rfl (Opd.tmp _ _ rfl) rfl) ?_ | refine Run.loadG (dd := some 12) rfl rfl rfl tG (op_loadn_flat rfl (Opd.tmp _ _ rfl) tH tR tR) ?_ | refine Run.pureG (dd := some 12) rfl rfl rfl tG (op_loadn_fz rfl (Opd.tmp _ _ rfl) tR) ?_ | refine Run.loadG (dd := some 12) rfl rfl rfl tG (op_loadn_refs rfl (Opd.tmp _ _ rfl) tH tR tR) ?_
  refine Run.pureG (dd := some 13) rfl rfl rfl tG (op_eqS rfl (Opd.topt _ _ _ rfl tO) (Opd.topt _ _ _ rfl tO) (by kernel_rfl)) ?_
  refine Run.pure (dd := some 14) rfl rfl (op_pick_and rfl (Opd.tmp _ _ rfl) (Opd.topt _ _ _ rfl tO)) ?_
  first | refine Run.pure (dd := some 4) rfl rfl (op_assign rfl (Opd.tmp _ _ rfl)) ?_ | refine Run.pure (dd := some 4) rfl rfl (op_junk (.inr rfl)) ?_
  refine Run.nil (FinD.mk (by kernel_rfl) ?_)
  refine nK ?_
  (first | exact s_o1 hC rfl tV | exact s_o2 hC rfl tV tV | exact s_o3 hC rfl tV tV tV | exact s_out0 hC rfl | exact s_outO hC rfl rfl rfl)
theorem rcovers_any (p q : Pfx) (hp : p.ok) (hq : q.ok) : Pure Try.prog 17 [.agg (encP p), .agg (encP q)] (Bf (coversB p q)) := by
  have hq2 := hq
  obtain ⟨h1, h2⟩ := hq
  refine Meets.intro Try.func17 rfl (Nat.le_of_ble_eq_true rfl) fun C hC => ?_
  simp only [List.map, argEnv, Nat.reduceAdd]
  refine nK ?_
  refine s_reg rfl ?_
  first | refine Run.eff (dd := some 2) rfl rfl (op_box_flat rfl (Opd.tmp _ _ rfl) tC rfl) ?_ | refine Run.eff (dd := some 2) rfl rfl (op_box_refs rfl (Opd.tmp _ _ rfl) tP rfl) ?_
  first | refine Run.eff (dd := some 3) rfl rfl (op_box_flat rfl (Opd.tmp _ _ rfl) tC rfl) ?_ | refine Run.eff (dd := some 3) rfl rfl (op_box_refs rfl (Opd.tmp _ _ rfl) tP rfl) ?_
  first | refine Run.pure (dd := some 4) rfl rfl (op_assign rfl (Opd.const _)) ?_ | refine Run.pure (dd := some 4) rfl rfl (op_junk (.inr rfl)) ?_
  refine Run.nil (FinR.mk ?_)
  refine nK ?_
  refine s_reg rfl ?_
  first | refine Run.load (dd := some 5) rfl rfl (op_loadw_flat rfl (Opd.tmp _ _ rfl) tH rfl) ?_ | refine Run.pure (dd := some 5) rfl rfl (op_loadw_fz rfl (Opd.tmp _ _ rfl) rfl) ?_ | refine Run.load (dd := some 5) rfl rfl (op_loadn_flat rfl (Opd.tmp _ _ rfl) tH tR tR) ?_ | refine Run.pure (dd := some 5) rfl rfl (op_loadn_fz rfl (Opd.tmp _ _ rfl) tR) ?_ | refine Run.load (dd := some 5) rfl rfl (op_loadn_refs rfl (Opd.tmp _ _ rfl) tH tR tR) ?_
  refine Run.pure (dd := some 6) rfl rfl (op_call_pure (fun _ => rvalid_any _ hq2) rfl (Opd.func _) (Opds.cons _ _ _ _ (Opd.tmp _ _ rfl) Opds.nil)) ?_
  first | refine Run.pure (dd := some 7) rfl rfl (op_move rfl (Opd.tmp _ _ rfl)) ?_ | refine Run.pure (dd := some 7) rfl rfl (op_junk (.inl rfl)) ?_
  first | refine Run.loadG (dd := some 8) rfl rfl rfl tG (op_loadw_flat rfl (Opd.tmp _ _ rfl) tH rfl) ?_ | refine Run.pureG (dd := some 8) rfl rfl rfl tG (op_loadw_fz rfl (Opd.tmp _ _ rfl) rfl) ?_ | refine Run.loadG (dd := some 8) rfl rfl rfl tG (op_loadn_flat rfl (Opd.tmp _ _ rfl) tH tR tR) ?_ | refine Run.pureG (dd := some 8) rfl rfl rfl tG (op_loadn_fz rfl (Opd.tmp _ _ rfl) tR) ?_ | refine Run.loadG (dd := some 8) rfl rfl rfl tG (op_loadn_refs rfl (Opd.tmp _ _ rfl) tH tR tR) ?_
  first | refine Run.pureG (dd := some 9) rfl rfl rfl tG (op_fld_ptr (by decide) rfl (Opd.tmp _ _ rfl)) ?_ | refine Run.pureG (dd := some 9) rfl rfl rfl tG (op_fld_fz (by decide) rfl (Opd.tmp _ _ rfl) tR) ?_
  first | refine Run.loadG (dd := some 10) rfl rfl rfl tG (op_load1_flat rfl (Opd.topt _ _ _ rfl tO) tH rfl) ?_ | refine Run.pureG (dd := some 10) rfl rfl rfl tG (op_load1_fz rfl (Opd.topt _ _ _ rfl tO) rfl) ?_ | refine Run.loadG (dd := some 10) rfl rfl rfl tG (op_load1_refs rfl (Opd.topt _ _ _ rfl tO) tH rfl) ?_
  refine Run.pureG (dd := some 11) rfl rfl rfl tG (op_call_pure (fun _ => rcontains_any _ _ hp (by omega)) rfl (Opd.func _) (Opds.cons _ _ _ _ (Opd.topt _ _ _ rfl tO) (Opds.cons _ _ _ _ (Opd.topt _ _ _ rfl tO) Opds.nil))) ?_
  refine Run.pure (dd := some 12) rfl rfl (op_pick_and rfl (Opd.tmp _ _ rfl) (Opd.topt _ _ _ rfl tO)) ?_
  first | refine Run.pure (dd := some 13) rfl rfl (op_move rfl (Opd.tmp _ _ rfl)) ?_ | refine Run.pure (dd := some 13) rfl rfl (op_junk (.inl rfl)) ?_
  first | refine Run.pureG (dd := some 14) rfl rfl rfl tG (op_fld_ptr (by decide) rfl (Opd.tmp _ _ rfl)) ?_ | refine Run.pureG (dd := some 14) rfl rfl rfl tG (op_fld_fz (by decide) rfl (Opd.tmp _ _ rfl) tR) ?_
  first | refine Run.loadG (dd := some 15) rfl rfl rfl tG (op_load1_flat rfl (Opd.topt _ _ _ rfl tO) tH rfl) ?_ | refine Run.pureG (dd := some 15) rfl rfl rfl tG (op_load1_fz rfl (Opd.topt _ _ _ rfl tO) rfl) ?_ | refine Run.loadG (dd := some 15) rfl rfl rfl tG (op_load1_refs rfl (Opd.topt _ _ _ rfl tO) tH rfl) ?_
  first | refine Run.pureG (dd := some 16) rfl rfl rfl tG (op_fld_ptr (by decide) rfl (Opd.tmp _ _ rfl)) ?_ | refine Run.pureG (dd := some 16) rfl rfl rfl tG (op_fld_fz (by decide) rfl (Opd.tmp _ _ rfl) tR) ?_
  first | refine Run.loadG (dd := some 17) rfl rfl rfl tG (op_load1_flat rfl (Opd.topt _ _ _ rfl tO) tH rfl) ?_ | refine Run.pureG (dd := some 17) rfl rfl rfl tG (op_load1_fz rfl (Opd.topt _ _ _ rfl tO) rfl) ?_ | refine Run.loadG (dd := some 17) rfl rfl rfl tG (op_load1_refs rfl (Opd.topt _ _ _ rfl tO) tH rfl) ?_
  refine Run.pureG (dd := some 18) rfl rfl rfl tG (op_leq rfl (Opd.topt _ _ _ rfl tO) (Opd.topt _ _ _ rfl tO)) ?_
  refine Run.pure (dd := some 19) rfl rfl (op_pick_and rfl (Opd.tmp _ _ rfl) (Opd.topt _ _ _ rfl tO)) ?_
  first | refine Run.pure (dd := some 4) rfl rfl (op_assign rfl (Opd.tmp _ _ rfl)) ?_ | refine Run.pure (dd := some 4) rfl rfl (op_junk (.inr rfl)) ?_
  refine Run.nil (FinR.mk ?_)
  refine nK ?_
  (first | exact s_o1 hC rfl tV | exact s_o2 hC rfl tV tV | exact s_o3 hC rfl tV tV tV | exact s_out0 hC rfl | exact s_outO hC rfl rfl rfl)
/- the prefix one bit shorter, its halves, its last address, of a valid one -/
theorem parent_any (p : Pfx) (h : p.ok) : Pure Try.prog 38 [.agg (encP p)] (parentF p) := by
  have hp2 := h
  obtain ⟨h1, h2⟩ := h
  have h3 := h2
  simp only [inr] at h3
  refine Meets.intro Try.func38 rfl (Nat.le_of_ble_eq_true rfl) fun C hC => ?_
  simp only [List.map, argEnv, Nat.reduceAdd]
  refine nK ?_
  refine s_reg rfl ?_
  first | refine Run.eff (dd := some 1) rfl rfl (op_box_flat rfl (Opd.tmp _ _ rfl) tC rfl) ?_ | refine Run.eff (dd := some 1) rfl rfl (op_box_refs rfl (Opd.tmp _ _ rfl) tP rfl) ?_
  refine Run.eff (dd := some 2) rfl rfl (op_alloc rfl rfl rfl rfl) ?_
  first | refine Run.pure (dd := some 3) rfl rfl (op_assign rfl (Opd.const _)) ?_ | refine Run.pure (dd := some 3) rfl rfl (op_junk (.inr rfl)) ?_
  refine Run.nil (FinR.mk ?_)
  refine nK ?_
  refine s_reg rfl ?_
  first | refine Run.load (dd := some 4) rfl rfl (op_loadw_flat rfl (Opd.tmp _ _ rfl) tH rfl) ?_ | refine Run.pure (dd := some 4) rfl rfl (op_loadw_fz rfl (Opd.tmp _ _ rfl) rfl) ?_ | refine Run.load (dd := some 4) rfl rfl (op_loadn_flat rfl (Opd.tmp _ _ rfl) tH tR tR) ?_ | refine Run.pure (dd := some 4) rfl rfl (op_loadn_fz rfl (Opd.tmp _ _ rfl) tR) ?_ | refine Run.load (dd := some 4) rfl rfl (op_loadn_refs rfl (Opd.tmp _ _ rfl) tH tR tR) ?_
  refine Run.pure (dd := some 5) rfl rfl (op_call_pure (fun _ => valid_any _ hp2) rfl (Opd.func _) (Opds.cons _ _ _ _ (Opd.tmp _ _ rfl) Opds.nil)) ?_
  refine Run.pure (dd := some 6) rfl rfl (op_not rfl (Opd.tmp _ _ rfl)) ?_
  first | refine Run.pure (dd := some 7) rfl rfl (op_move rfl (Opd.tmp _ _ rfl)) ?_ | refine Run.pure (dd := some 7) rfl rfl (op_junk (.inl rfl)) ?_
  first | refine Run.pureG (dd := some 8) rfl rfl rfl tG (op_fld_ptr (by decide) rfl (Opd.tmp _ _ rfl)) ?_ | refine Run.pureG (dd := some 8) rfl rfl rfl tG (op_fld_fz (by decide) rfl (Opd.tmp _ _ rfl) tR) ?_
  first | refine Run.loadG (dd := some 9) rfl rfl rfl tG (op_load1_flat rfl (Opd.topt _ _ _ rfl tO) tH rfl) ?_ | refine Run.pureG (dd := some 9) rfl rfl rfl tG (op_load1_fz rfl (Opd.topt _ _ _ rfl tO) rfl) ?_ | refine Run.loadG (dd := some 9) rfl rfl rfl tG (op_load1_refs rfl (Opd.topt _ _ _ rfl tO) tH rfl) ?_
  refine Run.pureG (dd := some 10) rfl rfl rfl tG (op_eql rfl (Opd.topt _ _ _ rfl tO) (Opd.const _)) ?_
  refine Run.pure (dd := some 11) rfl rfl (op_pick_or rfl (Opd.tmp _ _ rfl) (Opd.topt _ _ _ rfl tO)) ?_
  refine Run.nil (FinR.mk ?_)
  refine nK ?_
  refine n_cond _ rfl (fun hb => ?_) (fun hb => ?_)
  · have : parentF p = .tup [.agg [If .u32 0, If .i64 0], Bf false] := by
      unfold parentF; rw [if_neg]; rintro ⟨e1, e2⟩; simp [e1, e2] at hb
    rw [this]
    refine nK ?_
    refine s_reg rfl ?_
    first | refine Run.pure (dd := some 12) rfl rfl (op_build rfl rfl rfl (FillF.nil _)) ?_ | refine Run.pure (dd := some 12) rfl rfl (op_buildP rfl rfl rfl rfl (FillP.nil _)) ?_
    first | refine Run.eff (dd := none) rfl rfl (op_store_flat rfl (Opd.tmp _ _ rfl) (Opd.tmp _ _ rfl) tC rfl rfl (by first | rfl | assumption) tS) ?_ | refine Run.eff (dd := none) rfl rfl (op_store_refs rfl (Opd.tmp _ _ rfl) (Opd.tmp _ _ rfl) tP rfl rfl rfl tS) ?_
    first | refine Run.pure (dd := some 3) rfl rfl (op_assign rfl (Opd.const _)) ?_ | refine Run.pure (dd := some 3) rfl rfl (op_junk (.inr rfl)) ?_
    refine Run.nil (FinR.mk ?_)
    refine nK ?_
    (first | exact s_o1 hC rfl tV | exact s_o2 hC rfl tV tV | exact s_o3 hC rfl tV tV tV | exact s_out0 hC rfl | exact s_outO hC rfl rfl rfl)
  · simp at hb
    have : parentF p = .tup [.agg (encP (ofP p.addr (p.len - 1))), Bf true] := by
      unfold parentF; rw [if_pos ⟨hb.1, hb.2⟩]
    rw [this]
    have h4 : 0 ≤ p.len ∧ p.len ≤ 32 := by have := hb.1; unfold validB at this; simp at this; exact this.1
    refine nK ?_
    refine s_reg rfl ?_
    first | refine Run.pure (dd := some 13) rfl rfl (op_fld_ptr (by decide) rfl (Opd.tmp _ _ rfl)) ?_ | refine Run.pure (dd := some 13) rfl rfl (op_fld_fz (by decide) rfl (Opd.tmp _ _ rfl) tR) ?_
    first | refine Run.load (dd := some 14) rfl rfl (op_load1_flat rfl (Opd.tmp _ _ rfl) tH rfl) ?_ | refine Run.pure (dd := some 14) rfl rfl (op_load1_fz rfl (Opd.tmp _ _ rfl) rfl) ?_ | refine Run.load (dd := some 14) rfl rfl (op_load1_refs rfl (Opd.tmp _ _ rfl) tH rfl) ?_
    first | refine Run.pure (dd := some 15) rfl rfl (op_fld_ptr (by decide) rfl (Opd.tmp _ _ rfl)) ?_ | refine Run.pure (dd := some 15) rfl rfl (op_fld_fz (by decide) rfl (Opd.tmp _ _ rfl) tR) ?_
    first | refine Run.load (dd := some 16) rfl rfl (op_load1_flat rfl (Opd.tmp _ _ rfl) tH rfl) ?_ | refine Run.pure (dd := some 16) rfl rfl (op_load1_fz rfl (Opd.tmp _ _ rfl) rfl) ?_ | refine Run.load (dd := some 16) rfl rfl (op_load1_refs rfl (Opd.tmp _ _ rfl) tH rfl) ?_
    refine Run.pure (dd := some 17) rfl rfl (op_sub rfl (Opd.tmp _ _ rfl) (Opd.const _) tI) ?_
    refine Run.pure (dd := some 18) rfl rfl (op_call_pure (fun _ => of_any _ _ (by omega)) rfl (Opd.func _) (Opds.cons _ _ _ _ (Opd.tmp _ _ rfl) (Opds.cons _ _ _ _ (Opd.tmp _ _ rfl) Opds.nil))) ?_
    first | refine Run.eff (dd := none) rfl rfl (op_store_flat rfl (Opd.tmp _ _ rfl) (Opd.tmp _ _ rfl) tC rfl rfl (by first | rfl | assumption) tS) ?_ | refine Run.eff (dd := none) rfl rfl (op_store_refs rfl (Opd.tmp _ _ rfl) (Opd.tmp _ _ rfl) tP rfl rfl rfl tS) ?_
    first | refine Run.pure (dd := some 3) rfl rfl (op_assign rfl (Opd.const _)) ?_ | refine Run.pure (dd := some 3) rfl rfl (op_junk (.inr rfl)) ?_
    refine Run.nil (FinR.mk ?_)
    refine nK ?_
    (first | exact s_o1 hC rfl tV | exact s_o2 hC rfl tV tV | exact s_o3 hC rfl tV tV tV | exact s_out0 hC rfl | exact s_outO hC rfl rfl rfl)
theorem rparent_any (p : Pfx) (h : p.ok) : Pure Try.prog 50 [.agg (encP p)] (parentF p) := by
  have hp2 := h
  obtain ⟨h1, h2⟩ := h
  have h3 := h2
  simp only [inr] at h3
  refine Meets.intro Try.func50 rfl (Nat.le_of_ble_eq_true rfl) fun C hC => ?_
  simp only [List.map, argEnv, Nat.reduceAdd]
  refine nK ?_
  refine s_reg rfl ?_
  first | refine Run.eff (dd := some 1) rfl rfl (op_box_flat rfl (Opd.tmp _ _ rfl) tC rfl) ?_ | refine Run.eff (dd := some 1) rfl rfl (op_box_refs rfl (Opd.tmp _ _ rfl) tP rfl) ?_
  refine Run.eff (dd := some 2) rfl rfl (op_alloc rfl rfl rfl rfl) ?_
  first | refine Run.pure (dd := some 3) rfl rfl (op_assign rfl (Opd.const _)) ?_ | refine Run.pure (dd := some 3) rfl rfl (op_junk (.inr rfl)) ?_
  refine Run.nil (FinR.mk ?_)
  refine nK ?_
  refine s_reg rfl ?_
  first | refine Run.load (dd := some 4) rfl rfl (op_loadw_flat rfl (Opd.tmp _ _ rfl) tH rfl) ?_ | refine Run.pure (dd := some 4) rfl rfl (op_loadw_fz rfl (Opd.tmp _ _ rfl) rfl) ?_ | refine Run.load (dd := some 4) rfl rfl (op_loadn_flat rfl (Opd.tmp _ _ rfl) tH tR tR) ?_ | refine Run.pure (dd := some 4) rfl rfl (op_loadn_fz rfl (Opd.tmp _ _ rfl) tR) ?_ | refine Run.load (dd := some 4) rfl rfl (op_loadn_refs rfl (Opd.tmp _ _ rfl) tH tR tR) ?_
  refine Run.pure (dd := some 5) rfl rfl (op_call_pure (fun _ => rvalid_any _ hp2) rfl (Opd.func _) (Opds.cons _ _ _ _ (Opd.tmp _ _ rfl) Opds.nil)) ?_
  refine Run.pure (dd := some 6) rfl rfl (op_not rfl (Opd.tmp _ _ rfl)) ?_
  first | refine Run.pure (dd := some 7) rfl rfl (op_move rfl (Opd.tmp _ _ rfl)) ?_ | refine Run.pure (dd := some 7) rfl rfl (op_junk (.inl rfl)) ?_
  first | refine Run.pureG (dd := some 8) rfl rfl rfl tG (op_fld_ptr (by decide) rfl (Opd.tmp _ _ rfl)) ?_ | refine Run.pureG (dd := some 8) rfl rfl rfl tG (op_fld_fz (by decide) rfl (Opd.tmp _ _ rfl) tR) ?_
  first | refine Run.loadG (dd := some 9) rfl rfl rfl tG (op_load1_flat rfl (Opd.topt _ _ _ rfl tO) tH rfl) ?_ | refine Run.pureG (dd := some 9) rfl rfl rfl tG (op_load1_fz rfl (Opd.topt _ _ _ rfl tO) rfl) ?_ | refine Run.loadG (dd := some 9) rfl rfl rfl tG (op_load1_refs rfl (Opd.topt _ _ _ rfl tO) tH rfl) ?_
  refine Run.pureG (dd := some 10) rfl rfl rfl tG (op_eql rfl (Opd.topt _ _ _ rfl tO) (Opd.const _)) ?_
  refine Run.pure (dd := some 11) rfl rfl (op_pick_or rfl (Opd.tmp _ _ rfl) (Opd.topt _ _ _ rfl tO)) ?_
  refine Run.nil (FinR.mk ?_)
  refine nK ?_
  refine n_cond _ rfl (fun hb => ?_) (fun hb => ?_)
  · have : parentF p = .tup [.agg [If .u32 0, If .i64 0], Bf false] := by
      unfold parentF; rw [if_neg]; rintro ⟨e1, e2⟩; simp [e1, e2] at hb
    rw [this]
    refine nK ?_
    refine s_reg rfl ?_
    first | refine Run.pure (dd := some 12) rfl rfl (op_build rfl rfl rfl (FillF.nil _)) ?_ | refine Run.pure (dd := some 12) rfl rfl (op_buildP rfl rfl rfl rfl (FillP.nil _)) ?_
    first | refine Run.eff (dd := none) rfl rfl (op_store_flat rfl (Opd.tmp _ _ rfl) (Opd.tmp _ _ rfl) tC rfl rfl (by first | rfl | assumption) tS) ?_ | refine Run.eff (dd := none) rfl rfl (op_store_refs rfl (Opd.tmp _ _ rfl) (Opd.tmp _ _ rfl) tP rfl rfl rfl tS) ?_
    first | refine Run.pure (dd := some 3) rfl rfl (op_assign rfl (Opd.const _)) ?_ | refine Run.pure (dd := some 3) rfl rfl (op_junk (.inr rfl)) ?_
    refine Run.nil (FinR.mk ?_)
    refine nK ?_
    (first | exact s_o1 hC rfl tV | exact s_o2 hC rfl tV tV | exact s_o3 hC rfl tV tV tV | exact s_out0 hC rfl | exact s_outO hC rfl rfl rfl)
  · simp at hb
    have : parentF p = .tup [.agg (encP (ofP p.addr (p.len - 1))), Bf true] := by
      unfold parentF; rw [if_pos ⟨hb.1, hb.2⟩]
    rw [this]
    have h4 : 0 ≤ p.len ∧ p.len ≤ 32 := by have := hb.1; unfold validB at this; simp at this; exact this.1
    refine nK ?_
    refine s_reg rfl ?_
    first | refine Run.pure (dd := some 13) rfl rfl (op_fld_ptr (by decide) rfl (Opd.tmp _ _ rfl)) ?_ | refine Run.pure (dd := some 13) rfl rfl (op_fld_fz (by decide) rfl (Opd.tmp _ _ rfl) tR) ?_
    first | refine Run.load (dd := some 14) rfl rfl (op_load1_flat rfl (Opd.tmp _ _ rfl) tH rfl) ?_ | refine Run.pure (dd := some 14) rfl rfl (op_load1_fz rfl (Opd.tmp _ _ rfl) rfl) ?_ | refine Run.load (dd := some 14) rfl rfl (op_load1_refs rfl (Opd.tmp _ _ rfl) tH rfl) ?_
    first | refine Run.pure (dd := some 15) rfl rfl (op_fld_ptr (by decide) rfl (Opd.tmp _ _ rfl)) ?_ | refine Run.pure (dd := some 15) rfl rfl (op_fld_fz (by decide) rfl (Opd.tmp _ _ rfl) tR) ?_
    first | refine Run.load (dd := some 16) rfl rfl (op_load1_flat rfl (Opd.tmp _ _ rfl) tH rfl) ?_ | refine Run.pure (dd := some 16) rfl rfl (op_load1_fz rfl (Opd.tmp _ _ rfl) rfl) ?_ | refine Run.load (dd := some 16) rfl rfl (op_load1_refs rfl (Opd.tmp _ _ rfl) tH rfl) ?_
    refine Run.pure (dd := some 17) rfl rfl (op_sub rfl (Opd.tmp _ _ rfl) (Opd.const _) tI) ?_
    refine Run.pure (dd := some 18) rfl rfl (op_call_pure (fun _ => make_any _ _ (by omega)) rfl (Opd.func _) (Opds.cons _ _ _ _ (Opd.tmp _ _ rfl) (Opds.cons _ _ _ _ (Opd.tmp _ _ rfl) Opds.nil))) ?_
    first | refine Run.eff (dd := none) rfl rfl (op_store_flat rfl (Opd.tmp _ _ rfl) (Opd.tmp _ _ rfl) tC rfl rfl (by first | rfl | assumption) tS) ?_ | refine Run.eff (dd := none) rfl rfl (op_store_refs rfl (Opd.tmp _ _ rfl) (Opd.tmp _ _ rfl) tP rfl rfl rfl tS) ?_
    first | refine Run.pure (dd := some 3) rfl rfl (op_assign rfl (Opd.const _)) ?_ | refine Run.pure (dd := some 3) rfl rfl (op_junk (.inr rfl)) ?_
    refine Run.nil (FinR.mk ?_)
    refine nK ?_
    (first | exact s_o1 hC rfl tV | exact s_o2 hC rfl tV tV | exact s_o3 hC rfl tV tV tV | exact s_out0 hC rfl | exact s_outO hC rfl rfl rfl)

theorem last_any (p : Pfx) (h : p.ok) : Pure Try.prog 52 [.agg (encP p)] (If .u32 (lastN p)) := by
  have hp2 := h
  obtain ⟨h1, h2⟩ := h
  have hlt := lastN_lt p hp2
  refine Meets.intro Try.func52 rfl (Nat.le_of_ble_eq_true rfl) fun C hC => ?_
  simp only [List.map, argEnv, Nat.reduceAdd]
  refine nK ?_
  refine s_reg rfl ?_
  first | refine Run.eff (dd := some 1) rfl rfl (op_box_flat rfl (Opd.tmp _ _ rfl) tC rfl) ?_ | refine Run.eff (dd := some 1) rfl rfl (op_box_refs rfl (Opd.tmp _ _ rfl) tP rfl) ?_
  first | refine Run.pure (dd := some 2) rfl rfl (op_assign rfl (Opd.const _)) ?_ | refine Run.pure (dd := some 2) rfl rfl (op_junk (.inr rfl)) ?_
  refine Run.nil (FinR.mk ?_)
  refine nK ?_
  refine s_reg rfl ?_
  first | refine Run.load (dd := some 3) rfl rfl (op_loadw_flat rfl (Opd.tmp _ _ rfl) tH rfl) ?_ | refine Run.pure (dd := some 3) rfl rfl (op_loadw_fz rfl (Opd.tmp _ _ rfl) rfl) ?_ | refine Run.load (dd := some 3) rfl rfl (op_loadn_flat rfl (Opd.tmp _ _ rfl) tH tR tR) ?_ | refine Run.pure (dd := some 3) rfl rfl (op_loadn_fz rfl (Opd.tmp _ _ rfl) tR) ?_ | refine Run.load (dd := some 3) rfl rfl (op_loadn_refs rfl (Opd.tmp _ _ rfl) tH tR tR) ?_
  refine Run.pure (dd := some 4) rfl rfl (op_call_pure (fun _ => valid_any _ hp2) rfl (Opd.func _) (Opds.cons _ _ _ _ (Opd.tmp _ _ rfl) Opds.nil)) ?_
  refine Run.pure (dd := some 5) rfl rfl (op_not rfl (Opd.tmp _ _ rfl)) ?_
  refine Run.nil (FinR.mk ?_)
  refine nK ?_
  refine n_cond _ rfl (fun hb => ?_) (fun hb => ?_)
  · simp at hb
    have : lastN p = 0 := by unfold lastN; rw [if_neg (by simp [hb])]
    rw [this]
    refine nK ?_
    refine s_reg rfl ?_
    first | refine Run.pure (dd := some 2) rfl rfl (op_assign rfl (Opd.const _)) ?_ | refine Run.pure (dd := some 2) rfl rfl (op_junk (.inr rfl)) ?_
    refine Run.nil (FinR.mk ?_)
    refine nK ?_
    (first | exact s_o1 hC rfl tV | exact s_o2 hC rfl tV tV | exact s_o3 hC rfl tV tV tV | exact s_out0 hC rfl | exact s_outO hC rfl rfl rfl)
  · simp at hb
    have e : lastN p = p.addr ||| (4294967295 - (2 ^ 32 - 2 ^ (32 - clampN p.len))) := by unfold lastN; rw [if_pos hb]
    rw [e] at hlt ⊢
    have h0 : 0 < 2 ^ (32 - clampN p.len) := Nat.two_pow_pos _
    refine nK ?_
    refine s_draw mixed ?_
    first | refine Run.pure (dd := some 6) rfl rfl (op_fld_ptr (by decide) rfl (Opd.tmp _ _ rfl)) ?_ | refine Run.pure (dd := some 6) rfl rfl (op_fld_fz (by decide) rfl (Opd.tmp _ _ rfl) tR) ?_
    first | refine Run.load (dd := some 7) rfl rfl (op_load1_flat rfl (Opd.tmp _ _ rfl) tH rfl) ?_ | refine Run.pure (dd := some 7) rfl rfl (op_load1_fz rfl (Opd.tmp _ _ rfl) rfl) ?_ | refine Run.load (dd := some 7) rfl rfl (op_load1_refs rfl (Opd.tmp _ _ rfl) tH rfl) ?_
    first | refine Run.pure (dd := some 8) rfl rfl (op_fld_ptr (by decide) rfl (Opd.tmp _ _ rfl)) ?_ | refine Run.pure (dd := some 8) rfl rfl (op_fld_fz (by decide) rfl (Opd.tmp _ _ rfl) tR) ?_
    first | refine Run.load (dd := some 9) rfl rfl (op_load1_flat rfl (Opd.tmp _ _ rfl) tH rfl) ?_ | refine Run.pure (dd := some 9) rfl rfl (op_load1_fz rfl (Opd.tmp _ _ rfl) rfl) ?_ | refine Run.load (dd := some 9) rfl rfl (op_load1_refs rfl (Opd.tmp _ _ rfl) tH rfl) ?_
    refine Run.pure (dd := some 10) rfl rfl (op_call_pure (fun _ => mask_any _) rfl (Opd.func _) (Opds.cons _ _ _ _ (Opd.tmp _ _ rfl) Opds.nil)) ?_
    refine Run.pure (dd := some 11) rfl rfl (op_cpl (M := 4294967295) rfl (Opd.tmp _ _ rfl) (.inl ⟨rfl, rfl⟩) (by intro _; omega)) ?_
    refine Run.pure (dd := some 12) rfl rfl (op_bits rfl (Opd.tmp _ _ rfl) (Opd.tmp _ _ rfl) (.inr (.inl ⟨rfl, rfl⟩)) (by intro _; simp only [IntKind.bits]; omega) (by intro _; simp only [inr]; omega)) ?_
    first | refine Run.pure (dd := some 2) rfl rfl (op_assign rfl (Opd.tmp _ _ rfl)) ?_ | refine Run.pure (dd := some 2) rfl rfl (op_junk (.inr rfl)) ?_
    refine Run.nil (FinD.mk (by kernel_rfl) ?_)
    refine nK ?_
    (first | exact s_o1 hC rfl tV | exact s_o2 hC rfl tV tV | exact s_o3 hC rfl tV tV tV | exact s_out0 hC rfl | exact s_outO hC rfl rfl rfl)
theorem halves_any (p : Pfx) (h : p.ok) : Pure Try.prog 53 [.agg (encP p)] (halvesF p (keepN p.addr (clampN (p.len + 1))) (keepN (lastN p) (clampN (p.len + 1)))) := by
  have hp2 := h
  obtain ⟨h1, h2⟩ := h
  have hlt := lastN_lt p hp2
  refine Meets.intro Try.func53 rfl (Nat.le_of_ble_eq_true rfl) fun C hC => ?_
  simp only [List.map, argEnv, Nat.reduceAdd]
  refine nK ?_
  refine s_reg rfl ?_
  first | refine Run.eff (dd := some 1) rfl rfl (op_box_flat rfl (Opd.tmp _ _ rfl) tC rfl) ?_ | refine Run.eff (dd := some 1) rfl rfl (op_box_refs rfl (Opd.tmp _ _ rfl) tP rfl) ?_
  refine Run.eff (dd := some 2) rfl rfl (op_alloc rfl rfl rfl rfl) ?_
  refine Run.eff (dd := some 3) rfl rfl (op_alloc rfl rfl rfl rfl) ?_
  first | refine Run.pure (dd := some 4) rfl rfl (op_assign rfl (Opd.const _)) ?_ | refine Run.pure (dd := some 4) rfl rfl (op_junk (.inr rfl)) ?_
  refine Run.nil (FinR.mk ?_)
  refine nK ?_
  refine s_reg rfl ?_
  first | refine Run.load (dd := some 5) rfl rfl (op_loadw_flat rfl (Opd.tmp _ _ rfl) tH rfl) ?_ | refine Run.pure (dd := some 5) rfl rfl (op_loadw_fz rfl (Opd.tmp _ _ rfl) rfl) ?_ | refine Run.load (dd := some 5) rfl rfl (op_loadn_flat rfl (Opd.tmp _ _ rfl) tH tR tR) ?_ | refine Run.pure (dd := some 5) rfl rfl (op_loadn_fz rfl (Opd.tmp _ _ rfl) tR) ?_ | refine Run.load (dd := some 5) rfl rfl (op_loadn_refs rfl (Opd.tmp _ _ rfl) tH tR tR) ?_
  refine Run.pure (dd := some 6) rfl rfl (op_call_pure (fun _ => valid_any _ hp2) rfl (Opd.func _) (Opds.cons _ _ _ _ (Opd.tmp _ _ rfl) Opds.nil)) ?_
  refine Run.pure (dd := some 7) rfl rfl (op_not rfl (Opd.tmp _ _ rfl)) ?_
  first | refine Run.pure (dd := some 8) rfl rfl (op_move rfl (Opd.tmp _ _ rfl)) ?_ | refine Run.pure (dd := some 8) rfl rfl (op_junk (.inl rfl)) ?_
  first | refine Run.pureG (dd := some 9) rfl rfl rfl tG (op_fld_ptr (by decide) rfl (Opd.tmp _ _ rfl)) ?_ | refine Run.pureG (dd := some 9) rfl rfl rfl tG (op_fld_fz (by decide) rfl (Opd.tmp _ _ rfl) tR) ?_
  first | refine Run.loadG (dd := some 10) rfl rfl rfl tG (op_load1_flat rfl (Opd.topt _ _ _ rfl tO) tH rfl) ?_ | refine Run.pureG (dd := some 10) rfl rfl rfl tG (op_load1_fz rfl (Opd.topt _ _ _ rfl tO) rfl) ?_ | refine Run.loadG (dd := some 10) rfl rfl rfl tG (op_load1_refs rfl (Opd.topt _ _ _ rfl tO) tH rfl) ?_
  refine Run.pureG (dd := some 11) rfl rfl rfl tG (op_eql rfl (Opd.topt _ _ _ rfl tO) (Opd.const _)) ?_
  refine Run.pure (dd := some 12) rfl rfl (op_pick_or rfl (Opd.tmp _ _ rfl) (Opd.topt _ _ _ rfl tO)) ?_
  refine Run.nil (FinR.mk ?_)
  refine nK ?_
  refine n_cond _ rfl (fun hb => ?_) (fun hb => ?_)
  · have : ∀ a b, halvesF p a b = .tup [.agg [If .u32 0, If .i64 0], .agg [If .u32 0, If .i64 0], Bf false] := by
      intro a b; unfold halvesF; rw [if_neg]; rintro ⟨e1, e2⟩; simp [e1, e2] at hb
    rw [this]
    refine nK ?_
    refine s_reg rfl ?_
    first | refine Run.pure (dd := some 13) rfl rfl (op_build rfl rfl rfl (FillF.nil _)) ?_ | refine Run.pure (dd := some 13) rfl rfl (op_buildP rfl rfl rfl rfl (FillP.nil _)) ?_
    first | refine Run.pure (dd := some 14) rfl rfl (op_build rfl rfl rfl (FillF.nil _)) ?_ | refine Run.pure (dd := some 14) rfl rfl (op_buildP rfl rfl rfl rfl (FillP.nil _)) ?_
    first | refine Run.eff (dd := none) rfl rfl (op_store_flat rfl (Opd.tmp _ _ rfl) (Opd.tmp _ _ rfl) tC rfl rfl (by first | rfl | assumption) tS) ?_ | refine Run.eff (dd := none) rfl rfl (op_store_refs rfl (Opd.tmp _ _ rfl) (Opd.tmp _ _ rfl) tP rfl rfl rfl tS) ?_
    first | refine Run.eff (dd := none) rfl rfl (op_store_flat rfl (Opd.tmp _ _ rfl) (Opd.tmp _ _ rfl) tC rfl rfl (by first | rfl | assumption) tS) ?_ | refine Run.eff (dd := none) rfl rfl (op_store_refs rfl (Opd.tmp _ _ rfl) (Opd.tmp _ _ rfl) tP rfl rfl rfl tS) ?_
    first | refine Run.pure (dd := some 4) rfl rfl (op_assign rfl (Opd.const _)) ?_ | refine Run.pure (dd := some 4) rfl rfl (op_junk (.inr rfl)) ?_
    refine Run.nil (FinR.mk ?_)
    refine nK ?_
    (first | exact s_o1 hC rfl tV | exact s_o2 hC rfl tV tV | exact s_o3 hC rfl tV tV tV | exact s_out0 hC rfl | exact s_outO hC rfl rfl rfl)
  · simp at hb
    have : ∀ a b, halvesF p a b = .tup [.agg (encP ⟨a, p.len + 1⟩), .agg (encP ⟨b, p.len + 1⟩), Bf true] := by
      intro a b; unfold halvesF; rw [if_pos ⟨hb.1, hb.2⟩]
    rw [this]
    have h4 : 0 ≤ p.len ∧ p.len ≤ 32 := by have := hb.1; unfold validB at this; simp at this; exact this.1
    refine nK ?_
    refine s_draw mixed ?_
    first | refine Run.pure (dd := some 15) rfl rfl (op_fld_ptr (by decide) rfl (Opd.tmp _ _ rfl)) ?_ | refine Run.pure (dd := some 15) rfl rfl (op_fld_fz (by decide) rfl (Opd.tmp _ _ rfl) tR) ?_
    first | refine Run.load (dd := some 16) rfl rfl (op_load1_flat rfl (Opd.tmp _ _ rfl) tH rfl) ?_ | refine Run.pure (dd := some 16) rfl rfl (op_load1_fz rfl (Opd.tmp _ _ rfl) rfl) ?_ | refine Run.load (dd := some 16) rfl rfl (op_load1_refs rfl (Opd.tmp _ _ rfl) tH rfl) ?_
    first | refine Run.pure (dd := some 17) rfl rfl (op_fld_ptr (by decide) rfl (Opd.tmp _ _ rfl)) ?_ | refine Run.pure (dd := some 17) rfl rfl (op_fld_fz (by decide) rfl (Opd.tmp _ _ rfl) tR) ?_
    first | refine Run.load (dd := some 18) rfl rfl (op_load1_flat rfl (Opd.tmp _ _ rfl) tH rfl) ?_ | refine Run.pure (dd := some 18) rfl rfl (op_load1_fz rfl (Opd.tmp _ _ rfl) rfl) ?_ | refine Run.load (dd := some 18) rfl rfl (op_load1_refs rfl (Opd.tmp _ _ rfl) tH rfl) ?_
    refine Run.pure (dd := some 19) rfl rfl (op_add rfl (Opd.tmp _ _ rfl) (Opd.const _) tI) ?_
    refine Run.pure (dd := some 20) rfl rfl (op_call_pure (fun _ => of_any _ _ (by omega)) rfl (Opd.func _) (Opds.cons _ _ _ _ (Opd.tmp _ _ rfl) (Opds.cons _ _ _ _ (Opd.tmp _ _ rfl) Opds.nil))) ?_
    first | refine Run.load (dd := some 21) rfl rfl (op_loadw_flat rfl (Opd.tmp _ _ rfl) tH rfl) ?_ | refine Run.pure (dd := some 21) rfl rfl (op_loadw_fz rfl (Opd.tmp _ _ rfl) rfl) ?_ | refine Run.load (dd := some 21) rfl rfl (op_loadn_flat rfl (Opd.tmp _ _ rfl) tH tR tR) ?_ | refine Run.pure (dd := some 21) rfl rfl (op_loadn_fz rfl (Opd.tmp _ _ rfl) tR) ?_ | refine Run.load (dd := some 21) rfl rfl (op_loadn_refs rfl (Opd.tmp _ _ rfl) tH tR tR) ?_
    refine Run.pure (dd := some 22) rfl rfl (op_call_pure (fun _ => last_any _ hp2) rfl (Opd.func _) (Opds.cons _ _ _ _ (Opd.tmp _ _ rfl) Opds.nil)) ?_
    first | refine Run.pure (dd := some 23) rfl rfl (op_fld_ptr (by decide) rfl (Opd.tmp _ _ rfl)) ?_ | refine Run.pure (dd := some 23) rfl rfl (op_fld_fz (by decide) rfl (Opd.tmp _ _ rfl) tR) ?_
    first | refine Run.load (dd := some 24) rfl rfl (op_load1_flat rfl (Opd.tmp _ _ rfl) tH rfl) ?_ | refine Run.pure (dd := some 24) rfl rfl (op_load1_fz rfl (Opd.tmp _ _ rfl) rfl) ?_ | refine Run.load (dd := some 24) rfl rfl (op_load1_refs rfl (Opd.tmp _ _ rfl) tH rfl) ?_
    refine Run.pure (dd := some 25) rfl rfl (op_add rfl (Opd.tmp _ _ rfl) (Opd.const _) tI) ?_
    refine Run.pure (dd := some 26) rfl rfl (op_call_pure (fun _ => of_any _ _ (by omega)) rfl (Opd.func _) (Opds.cons _ _ _ _ (Opd.tmp _ _ rfl) (Opds.cons _ _ _ _ (Opd.tmp _ _ rfl) Opds.nil))) ?_
    first | refine Run.effW (dd := none) rfl rfl (op_store_flat rfl (Opd.tmp _ _ rfl) (Opd.tmp _ _ rfl) tC rfl rfl (by first | rfl | assumption) tS) tE ?_ | refine Run.effW (dd := none) rfl rfl (op_store_refs rfl (Opd.tmp _ _ rfl) (Opd.tmp _ _ rfl) tP rfl rfl rfl tS) tE ?_
    first | refine Run.effW (dd := none) rfl rfl (op_store_flat rfl (Opd.tmp _ _ rfl) (Opd.tmp _ _ rfl) tC rfl rfl (by first | rfl | assumption) tS) tE ?_ | refine Run.effW (dd := none) rfl rfl (op_store_refs rfl (Opd.tmp _ _ rfl) (Opd.tmp _ _ rfl) tP rfl rfl rfl tS) tE ?_
    first | refine Run.pure (dd := some 4) rfl rfl (op_assign rfl (Opd.const _)) ?_ | refine Run.pure (dd := some 4) rfl rfl (op_junk (.inr rfl)) ?_
    refine Run.nil (FinD.mk (by kernel_rfl) ?_)
    refine nK ?_
    (first | exact s_o1 hC rfl tV | exact s_o2 hC rfl tV tV | exact s_o3 hC rfl tV tV tV | exact s_out0 hC rfl | exact s_outO hC rfl rfl rfl)
end Go.Proofs.Ytdebjffddkgfbaa
namespace Go.Proofs.Ytdebjffddkgfbaa
open Go Go.RT Go.Proofs Go.Pl
set_option linter.all false
set_option maxRecDepth 20000

theorem same_any (a b : List Pfx) (ha : a.length ≤ 4611686018427387904) (hbl : b.length ≤ 4611686018427387904) : Pure Try.prog 12 [VP a, VP b] (Bf (decide (a = b))) := by
  refine Meets.intro Try.func12 rfl (Nat.le_of_ble_eq_true rfl) fun C hC => ?_
  simp only [List.map, argEnv, Nat.reduceAdd]
  refine nK ?_
  refine s_reg rfl ?_
  first | refine Run.pure (dd := some 4) rfl rfl (op_assign rfl (Opd.const _)) ?_ | refine Run.pure (dd := some 4) rfl rfl (op_junk (.inr rfl)) ?_
  refine Run.nil (FinR.mk ?_)
  refine nK ?_
  refine s_reg rfl ?_
  first | refine Run.pure (dd := some 7) rfl rfl (op_move rfl (Opd.tmp _ _ rfl)) ?_ | refine Run.pure (dd := some 7) rfl rfl (op_junk (.inl rfl)) ?_
  first | refine Run.pure (dd := some 8) rfl rfl (op_len_fz rfl (by first | exact Opd.tmp _ _ rfl | exact Opd.nil _ _ (Opd.tmp _ _ rfl)) (by first | exact List.length_map _ | rfl)) ?_ | refine Run.pure (dd := some 8) rfl rfl (op_len_sl rfl (Opd.tmp _ _ rfl)) ?_
  first | refine Run.pure (dd := some 9) rfl rfl (op_move rfl (Opd.tmp _ _ rfl)) ?_ | refine Run.pure (dd := some 9) rfl rfl (op_junk (.inl rfl)) ?_
  first | refine Run.pure (dd := some 10) rfl rfl (op_len_fz rfl (by first | exact Opd.tmp _ _ rfl | exact Opd.nil _ _ (Opd.tmp _ _ rfl)) (by first | exact List.length_map _ | rfl)) ?_ | refine Run.pure (dd := some 10) rfl rfl (op_len_sl rfl (Opd.tmp _ _ rfl)) ?_
  refine Run.pure (dd := some 11) rfl rfl (op_neq rfl (Opd.tmp _ _ rfl) (Opd.tmp _ _ rfl)) ?_
  refine Run.nil (FinR.mk ?_)
  refine nK ?_
  refine n_cond _ rfl (fun hb => ?_) (fun hb => ?_)
  · have e : decide (a = b) = false := by
      rw [decide_eq_false_iff_not]; rintro rfl; simp at hb
    rw [e]
    refine nK ?_
    refine s_reg rfl ?_
    first | refine Run.pure (dd := some 4) rfl rfl (op_assign rfl (Opd.const _)) ?_ | refine Run.pure (dd := some 4) rfl rfl (op_junk (.inr rfl)) ?_
    refine Run.nil (FinR.mk ?_)
    refine nK ?_
    (first | exact s_o1 hC rfl tV | exact s_o2 hC rfl tV tV | exact s_o3 hC rfl tV tV tV | exact s_out0 hC rfl | exact s_outO hC rfl rfl rfl)
  · have hl : a.length = b.length := by simp at hb; omega
    refine nK ?_
    refine s_reg rfl ?_
    first | refine Run.pure (dd := some 12) rfl rfl (op_move rfl (Opd.tmp _ _ rfl)) ?_ | refine Run.pure (dd := some 12) rfl rfl (op_junk (.inl rfl)) ?_
    first | refine Run.pure (dd := some 13) rfl rfl (op_len_fz rfl (by first | exact Opd.tmp _ _ rfl | exact Opd.nil _ _ (Opd.tmp _ _ rfl)) (by first | exact List.length_map _ | rfl)) ?_ | refine Run.pure (dd := some 13) rfl rfl (op_len_sl rfl (Opd.tmp _ _ rfl)) ?_
    first | refine Run.pure (dd := some 14) rfl rfl (op_move rfl (Opd.const _)) ?_ | refine Run.pure (dd := some 14) rfl rfl (op_junk (.inl rfl)) ?_
    refine Run.nil (FinR.mk ?_)
    refine nK ?_
    refine n_loop (ι := Nat) (fun i => ([(0, .fz (VP a)), (1, .fz (VP b)), (12, .fz (VP a)), (13, IV .i64 a.length), (14, IV .i64 i)], [], 0)) (fun i => i ≤ a.length ∧ a.take i = b.take i) (fun i => a.length - i) 0 ⟨Nat.zero_le _, rfl⟩ ?_ ?_
    · refine Next.weak [] [] (by rfl) (keeps0 hC _) (by repeat (first | exact trivial | refine ⟨⟨_, rfl, .inl ⟨rfl, rfl⟩⟩, ?_⟩)) (by repeat (first | exact trivial | refine ⟨⟨rfl, rfl, rfl, tL⟩, ?_⟩)) (fun _ h => by simp at h) rel_intro
    · intro i ⟨hi, hab⟩ K hK
      refine nK ?_
      refine s_reg rfl ?_
      refine Run.pure (dd := some 15) rfl rfl (op_lss rfl (Opd.tmp _ _ rfl) (Opd.tmp _ _ rfl)) ?_
      refine Run.nil (FinR.mk ?_)
      refine nK ?_
      refine n_cond _ rfl (fun hb => ?_) (fun hb => ?_)
      · have hlt : i < a.length := by simp at hb; omega
        have hr1 := row_at encP a i hlt
        have hr2 := row_at encP b i (by omega)
        refine nK ?_
        refine s_reg rfl ?_
        first | refine Run.pure (dd := some 16) rfl rfl (op_move rfl (Opd.tmp _ _ rfl)) ?_ | refine Run.pure (dd := some 16) rfl rfl (op_junk (.inl rfl)) ?_
        first | refine Run.pure (dd := some 17) rfl rfl (op_idx_sl0 _ rfl (Opd.tmp _ _ rfl) (Opd.tmp _ _ rfl) tD) ?_ | refine Run.pure (dd := some 17) rfl rfl (op_idx_fz _ rfl (Opd.tmp _ _ rfl) (Opd.tmp _ _ rfl) tF) ?_
        first | refine Run.load (dd := some 18) rfl rfl (op_loadw_flat rfl (Opd.tmp _ _ rfl) tH rfl) ?_ | refine Run.pure (dd := some 18) rfl rfl (op_loadw_fz rfl (Opd.tmp _ _ rfl) rfl) ?_ | refine Run.load (dd := some 18) rfl rfl (op_loadn_flat rfl (Opd.tmp _ _ rfl) tH tR tR) ?_ | refine Run.pure (dd := some 18) rfl rfl (op_loadn_fz rfl (Opd.tmp _ _ rfl) tR) ?_ | refine Run.load (dd := some 18) rfl rfl (op_loadn_refs rfl (Opd.tmp _ _ rfl) tH tR tR) ?_
        refine Run.eff (dd := some 6) rfl rfl (op_alloc rfl rfl rfl rfl) ?_
        first | refine Run.pure (dd := some 5) rfl rfl (op_assign rfl (Opd.tmp _ _ rfl)) ?_ | refine Run.pure (dd := some 5) rfl rfl (op_junk (.inr rfl)) ?_
        first | refine Run.eff (dd := none) rfl rfl (op_store_flat rfl (Opd.tmp _ _ rfl) (Opd.tmp _ _ rfl) tC rfl rfl (by first | rfl | assumption) tS) ?_ | refine Run.eff (dd := none) rfl rfl (op_store_refs rfl (Opd.tmp _ _ rfl) (Opd.tmp _ _ rfl) tP rfl rfl rfl tS) ?_
        refine Run.nil (FinR.mk ?_)
        refine nK ?_
        refine s_draw mixed ?_
        first | refine Run.load (dd := some 19) rfl rfl (op_loadw_flat rfl (Opd.tmp _ _ rfl) tH rfl) ?_ | refine Run.pure (dd := some 19) rfl rfl (op_loadw_fz rfl (Opd.tmp _ _ rfl) rfl) ?_ | refine Run.load (dd := some 19) rfl rfl (op_loadn_flat rfl (Opd.tmp _ _ rfl) tH tR tR) ?_ | refine Run.pure (dd := some 19) rfl rfl (op_loadn_fz rfl (Opd.tmp _ _ rfl) tR) ?_ | refine Run.load (dd := some 19) rfl rfl (op_loadn_refs rfl (Opd.tmp _ _ rfl) tH tR tR) ?_
        first | refine Run.pure (dd := some 20) rfl rfl (op_move rfl (Opd.tmp _ _ rfl)) ?_ | refine Run.pure (dd := some 20) rfl rfl (op_junk (.inl rfl)) ?_
        first | refine Run.pure (dd := some 21) rfl rfl (op_move rfl (Opd.tmp _ _ rfl)) ?_ | refine Run.pure (dd := some 21) rfl rfl (op_junk (.inl rfl)) ?_
        first | refine Run.pure (dd := some 22) rfl rfl (op_idx_sl0 _ rfl (Opd.tmp _ _ rfl) (Opd.tmp _ _ rfl) tD) ?_ | refine Run.pure (dd := some 22) rfl rfl (op_idx_fz _ rfl (Opd.tmp _ _ rfl) (Opd.tmp _ _ rfl) tF) ?_
        first | refine Run.load (dd := some 23) rfl rfl (op_loadw_flat rfl (Opd.tmp _ _ rfl) tH rfl) ?_ | refine Run.pure (dd := some 23) rfl rfl (op_loadw_fz rfl (Opd.tmp _ _ rfl) rfl) ?_ | refine Run.load (dd := some 23) rfl rfl (op_loadn_flat rfl (Opd.tmp _ _ rfl) tH tR tR) ?_ | refine Run.pure (dd := some 23) rfl rfl (op_loadn_fz rfl (Opd.tmp _ _ rfl) tR) ?_ | refine Run.load (dd := some 23) rfl rfl (op_loadn_refs rfl (Opd.tmp _ _ rfl) tH tR tR) ?_
        refine Run.pure (dd := some 24) rfl rfl (op_neS rfl (Opd.tmp _ _ rfl) (Opd.tmp _ _ rfl) (by kernel_rfl)) ?_
        refine Run.nil (FinD.mk (by kernel_rfl) ?_)
        refine nK ?_
        refine n_cond _ rfl (fun hb => ?_) (fun hb => ?_)
        · rw [eqFs_encP] at hb
          have e : decide (a = b) = false := by
            rw [decide_eq_false_iff_not]; rintro rfl; simp at hb
          rw [e]
          refine nK ?_
          refine s_reg rfl ?_
          first | refine Run.pure (dd := some 4) rfl rfl (op_assign rfl (Opd.const _)) ?_ | refine Run.pure (dd := some 4) rfl rfl (op_junk (.inr rfl)) ?_
          refine Run.nil (FinR.mk ?_)
          refine nK ?_
          (first | exact s_o1 hC rfl tV | exact s_o2 hC rfl tV tV | exact s_o3 hC rfl tV tV tV | exact s_out0 hC rfl | exact s_outO hC rfl rfl rfl)
        · rw [eqFs_encP] at hb
          have he : a[i] = b[i] := by simpa using hb
          refine nK ?_
          refine s_reg rfl ?_
          refine Run.pure (dd := some 25) rfl rfl (op_add rfl (Opd.tmp _ _ rfl) (Opd.const _) tI) ?_
          first | refine Run.pure (dd := some 14) rfl rfl (op_move rfl (Opd.tmp _ _ rfl)) ?_ | refine Run.pure (dd := some 14) rfl rfl (op_junk (.inl rfl)) ?_
          refine Run.nil (FinR.mk ?_)
          refine nK ?_
          refine Next.weak [] [] (by rfl) (keeps0 hC _) (by repeat (first | exact trivial | refine ⟨⟨_, rfl, .inl ⟨rfl, rfl⟩⟩, ?_⟩)) (by repeat (first | exact trivial | refine ⟨⟨rfl, rfl, rfl, tL⟩, ?_⟩)) (fun _ h => by simp at h) (hK (i + 1) ⟨by omega, take_eq_succ hlt (by omega) hab he⟩ (by omega))
      · have he : i = a.length := by simp at hb; omega
        have e : decide (a = b) = true := by
          rw [decide_eq_true_eq]; rw [he, List.take_length, hl, List.take_length] at hab; exact hab
        rw [e]
        refine nK ?_
        refine s_reg rfl ?_
        first | refine Run.pure (dd := some 4) rfl rfl (op_assign rfl (Opd.const _)) ?_ | refine Run.pure (dd := some 4) rfl rfl (op_junk (.inr rfl)) ?_
        refine Run.nil (FinR.mk ?_)
        refine nK ?_
        (first | exact s_o1 hC rfl tV | exact s_o2 hC rfl tV tV | exact s_o3 hC rfl tV tV tV | exact s_out0 hC rfl | exact s_outO hC rfl rfl rfl)
end Go.Proofs.Ytdebjffddkgfbaa
