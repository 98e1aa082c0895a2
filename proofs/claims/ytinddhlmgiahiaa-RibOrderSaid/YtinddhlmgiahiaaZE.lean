/- A part of the proof: GP6, GP7, GP8, GP9, GP10, R12, RP9, R13, R14, RP10, R15, R16, RP11, R17, RP12, RP13, R18, RT44, R19, LayR, R20, R21. -/
import Derived.Test.YtinddhlmgiahiaaZD
import Derived.Shelf.SlLaysF0
import Derived.Ground.SlsfProg
set_option linter.all false
/- The reference's search: passes over all edges. -/
namespace Go.Pl
open Go.RT
set_option linter.all false
/-- one edge of a pass -/
def passE (out : List Bool) (e : Edg) : List Bool := if out[e.f.toNat]? = some true then out.set e.t.toNat true else out
def pass (es : List Edg) (out : List Bool) : List Bool := es.foldl passE out
theorem passE_len (out : List Bool) (e : Edg) : (passE out e).length = out.length := by unfold passE; split <;> simp
theorem pass_len : ∀ (es : List Edg) (out : List Bool), (pass es out).length = out.length
  | [], out => rfl
  | e :: es, out => by
    show (pass es (passE out e)).length = _
    rw [pass_len es, passE_len]
theorem passE_mono {out : List Bool} {e : Edg} {v : Nat} (h : out[v]? = some true) : (passE out e)[v]? = some true := by
  unfold passE; split
  · exact set_true h
  · exact h
theorem pass_mono : ∀ {es : List Edg} {out : List Bool} {v : Nat}, out[v]? = some true → (pass es out)[v]? = some true
  | [], out, v, h => h
  | e :: es, out, v, h => pass_mono (es := es) (passE_mono h)
theorem cntT_cons (x : Bool) (l : List Bool) : cntT (x :: l) = cntT l + if x = true then 1 else 0 := by
  unfold cntT; rw [List.countP_cons]; cases x <;> rfl
theorem cnt_mono : ∀ {a b : List Bool}, a.length = b.length → (∀ v : Nat, a[v]? = some true → b[v]? = some true) → cntT a ≤ cntT b ∧ (cntT a = cntT b → a = b)
  | [], [], _, _ => ⟨Nat.le_refl _, fun _ => rfl⟩
  | [], _ :: _, h, _ => by simp at h
  | _ :: _, [], h, _ => by simp at h
  | x :: a, y :: b, hl, h => by
    obtain ⟨i1, i2⟩ := cnt_mono (a := a) (b := b) (by simpa using hl) (fun v hv => by simpa using h (v + 1) (by simpa using hv))
    have h0 := h 0
    simp only [List.getElem?_cons_zero, Option.some.injEq] at h0
    rw [cntT_cons, cntT_cons]
    cases x <;> cases y
    · exact ⟨by simpa using i1, fun hh => by rw [i2 (by simpa using hh)]⟩
    · exact ⟨by simp; omega, fun hh => by simp at hh; omega⟩
    · simp at h0
    · exact ⟨by simpa using i1, fun hh => by rw [i2 (by simpa using hh)]⟩
/-- a pass that changes nothing: closed under the edges -/
theorem pass_fix : ∀ {es : List Edg} {out : List Bool}, pass es out = out → (∀ e ∈ es, 0 ≤ e.t ∧ e.t.toNat < out.length) → ∀ e ∈ es, out[e.f.toNat]? = some true → out[e.t.toNat]? = some true := by
  intro es out h hin
  -- every prefix of the pass leaves the list as it is
  have key : ∀ (es : List Edg) (out o : List Bool), o.length = out.length → (∀ v : Nat, out[v]? = some true → o[v]? = some true) → pass es o = out → (∀ e ∈ es, 0 ≤ e.t ∧ e.t.toNat < out.length) → o = out ∧ ∀ e ∈ es, out[e.f.toNat]? = some true → out[e.t.toNat]? = some true := by
    intro es
    induction es with
    | nil => intro out o _ _ h _; exact ⟨h, fun e he => by cases he⟩
    | cons e es ih =>
      intro out o hl hm hp hin
      have hp' : pass es (passE o e) = out := hp
      obtain ⟨i1, i2⟩ := ih out (passE o e) (by rw [passE_len]; exact hl) (fun v hv => passE_mono (hm v hv)) hp' (fun e' he' => hin e' (List.mem_cons_of_mem _ he'))
      have hle : ∀ v : Nat, o[v]? = some true → out[v]? = some true := fun v hv => by rw [← i1]; exact passE_mono hv
      have hoe : o = out := by
        have c1 := (cnt_mono hl hle)
        have c2 := (cnt_mono hl.symm hm)
        exact c1.2 (Nat.le_antisymm c1.1 c2.1)
      refine ⟨hoe, fun e' he' hf => ?_⟩
      rcases List.mem_cons.1 he' with rfl | he'
      · subst hoe
        unfold passE at i1
        rw [if_pos hf] at i1
        have := hin e' (List.mem_cons_self ..)
        rw [← i1, List.getElem?_set, if_pos rfl, if_pos this.2]
      · exact i2 e' he' hf
  exact (key es out out rfl (fun v h => h) h hin).2
/-- what the passes keep -/
structure Pas (g : Gr) (a : Int) (out : List Bool) : Prop where
  len : out.length = (g.r + g.n).toNat
  from_ : out[a.toNat]? = some true
  sound : ∀ v : Nat, out[v]? = some true → Rch g.es a (v : Int)
theorem Pas.stepE {g : Gr} {a : Int} {out : List Bool} {e : Edg} (h : Pas g a out) (he : e ∈ g.es) (h0 : 0 ≤ e.f ∧ 0 ≤ e.t) : Pas g a (passE out e) := by
  refine ⟨by rw [passE_len]; exact h.len, passE_mono h.from_, fun v hv => ?_⟩
  unfold passE at hv
  split at hv
  · rename_i hf
    rw [List.getElem?_set] at hv
    split at hv
    · rename_i e2
      have := h.sound _ hf
      rw [Int.toNat_of_nonneg h0.1] at this
      rw [← e2, Int.toNat_of_nonneg h0.2]
      exact .step e he this
    · exact h.sound v hv
  · exact h.sound v hv
theorem Pas.pass {g : Gr} {a : Int} : ∀ {es : List Edg} {out : List Bool}, Pas g a out → (∀ e ∈ es, e ∈ g.es ∧ 0 ≤ e.f ∧ 0 ≤ e.t) → Pas g a (Pl.pass es out)
  | [], out, h, _ => h
  | e :: es, out, h, he => Pas.pass (es := es) (h.stepE (he e (List.mem_cons_self ..)).1 (he e (List.mem_cons_self ..)).2) (fun e' h' => he e' (List.mem_cons_of_mem _ h'))
/-- after k passes: closed, or more than k nodes marked -/
def Far (g : Gr) (out : List Bool) (k : Nat) : Prop := (∀ e ∈ g.es, out[e.f.toNat]? = some true → out[e.t.toNat]? = some true) ∨ k + 1 ≤ cntT out
theorem Far.next {g : Gr} {out : List Bool} {k : Nat} (h : Far g out k) (hin : ∀ e ∈ g.es, 0 ≤ e.t ∧ e.t.toNat < out.length) : Far g (pass g.es out) (k + 1) := by
  by_cases hf : pass g.es out = out
  · rw [hf]; exact .inl (pass_fix hf hin)
  · have hc := cnt_mono (a := out) (b := pass g.es out) (pass_len _ _).symm (fun v => pass_mono)
    have hlt : cntT out < cntT (pass g.es out) := by
      rcases Nat.lt_or_ge (cntT out) (cntT (pass g.es out)) with h1 | h1
      · exact h1
      · exact absurd (hc.2 (by omega)).symm hf
    rcases h with h | h
    · -- closed already: a pass changes nothing
      exfalso
      apply hf
      have : ∀ (es : List Edg), (∀ e ∈ es, e ∈ g.es) → pass es out = out := by
        intro es
        induction es with
        | nil => exact fun _ => rfl
        | cons e es ih =>
          intro hes
          have hee := hes e (List.mem_cons_self ..)
          have he : passE out e = out := by
            unfold passE
            split
            · rename_i ht
              have hh := h e hee ht
              obtain ⟨q1, q2⟩ := List.getElem?_eq_some_iff.1 hh
              rw [← q2]; exact List.set_getElem_self q1
            · rfl
          show pass es (passE out e) = out
          rw [he]; exact ih fun e' h' => hes e' (List.mem_cons_of_mem _ h')
      exact this g.es fun e h => h
    · exact .inr (by omega)
end Go.Pl
/- The valid graph of edges, as the reference puts it together. -/
namespace Go.Pl
open Go.RT
set_option linter.all false
end Go.Pl
/- Elements that a test holds for are dropped. -/
namespace Go.Pl
set_option linter.all false
end Go.Pl
namespace Go.Pl
set_option linter.all false
/-- binary search: the least place in [i, j) whose element is not below -/
def bsGo {α : Type} (p : α → Bool) (l : List α) (i j : Nat) : Nat :=
  if h : i < j then
    (if h2 : (i + j) / 2 < l.length then
      (bif p l[(i + j) / 2] then bsGo p l ((i + j) / 2 + 1) j else bsGo p l i ((i + j) / 2))
    else i)
  else i
termination_by j - i
theorem bsGo_end {α : Type} (p : α → Bool) (l : List α) (i : Nat) : bsGo p l i i = i := by
  rw [bsGo]; simp
theorem bsGo_step {α : Type} (p : α → Bool) (l : List α) (i j : Nat) (h : i < j) (hj : j ≤ l.length) :
    bsGo p l i j = (bif p (l[(i + j) / 2]'(by omega)) then bsGo p l ((i + j) / 2 + 1) j else bsGo p l i ((i + j) / 2)) := by
  rw [bsGo]; simp [h, show (i + j) / 2 < l.length by omega]
def hitAt {α : Type} (p : α → Bool) (l : List α) (i : Nat) : Bool := match l[i]? with | some e => p e | none => false
theorem bsGo_le {α : Type} (p : α → Bool) (l : List α) : ∀ (n i j : Nat), j - i ≤ n → i ≤ j → j ≤ l.length → i ≤ bsGo p l i j ∧ bsGo p l i j ≤ j
  | n, i, j, hn, hi, hj => by
    rw [bsGo]
    by_cases h : i < j
    · have hm : (i + j) / 2 < l.length := by omega
      simp only [h, hm, dif_pos]
      cases n with
      | zero => omega
      | succ n =>
        cases p l[(i + j) / 2] with
        | true => have := bsGo_le p l n ((i + j) / 2 + 1) j (by omega) (by omega) hj; simp only [cond_true]; omega
        | false => have := bsGo_le p l n i ((i + j) / 2) (by omega) (by omega) (by omega); simp only [cond_false]; omega
    · simp only [h, dif_neg, not_false_eq_true]; omega
/-- over a list on which p is first true and then false -/
theorem bsGo_spec {α : Type} (p : α → Bool) (l : List α) (hm : ∀ a b (ha : a < b) (hb : b < l.length), p l[b] = true → p (l[a]'(by omega)) = true) :
    ∀ (n i j : Nat), j - i ≤ n → (hi : i ≤ j) → (hj : j ≤ l.length) →
      (∀ k (hk : k < i), p (l[k]'(by omega)) = true) → (∀ k (hk : j ≤ k) (hl : k < l.length), p l[k] = false) →
      (∀ k (hk : k < bsGo p l i j) (hl : k < l.length), p l[k] = true) ∧ (∀ k (hk : bsGo p l i j ≤ k) (hl : k < l.length), p l[k] = false)
  | n, i, j, hn, hi, hj, h1, h2 => by
    rw [bsGo]
    by_cases h : i < j
    · have hmm : (i + j) / 2 < l.length := by omega
      simp only [h, hmm, dif_pos]
      cases n with
      | zero => omega
      | succ n =>
        cases hp : p l[(i + j) / 2] with
        | true =>
          simp only [cond_true]
          refine bsGo_spec p l hm n ((i + j) / 2 + 1) j (by omega) (by omega) hj ?_ h2
          intro k hk
          by_cases e : k = (i + j) / 2
          · subst e; exact hp
          · exact hm k ((i + j) / 2) (by omega) hmm hp
        | false =>
          simp only [cond_false]
          refine bsGo_spec p l hm n i ((i + j) / 2) (by omega) (by omega) (by omega) h1 ?_
          intro k hk hl
          by_cases e : k = (i + j) / 2
          · subst e; exact hp
          · cases hq : p l[k] with
            | false => rfl
            | true => have := hm ((i + j) / 2) k (by omega) hl hq; rw [hp] at this; exact absurd this (by simp)
    · simp only [h, dif_neg, not_false_eq_true]
      have : i = j := by omega
      exact ⟨fun k hk _ => h1 k hk, fun k hk hl => h2 k (by omega) hl⟩
end Go.Pl
namespace Go.Pl
theorem hitAt_eq {α : Type} [Inhabited α] (l : List α) (i : Nat) (p : α → Bool) : ∃ q, (i < l.length → l[i]? = some q) ∧ hitAt p l i = (decide ((i : Int) < (l.length : Int)) && p q) := by
  by_cases h : i < l.length
  · exact ⟨l[i], fun _ => List.getElem?_eq_getElem h, by simp [hitAt, h]⟩
  · exact ⟨default, fun h' => absurd h' h, by simp [hitAt, h]⟩
open Go.RT
def zE : Edg := ⟨0, 0, 0⟩
end Go.Pl
namespace Go.Pl
set_option linter.all false
/-- x put in ahead of place i -/
def insL {α : Type} (l : List α) (i : Nat) (x : α) : List α := l.take i ++ x :: l.drop i
theorem insL_len {α : Type} (l : List α) (i : Nat) (x : α) (h : i ≤ l.length) : (insL l i x).length = l.length + 1 := by simp [insL]; omega
theorem insL_map {α β : Type} (f : α → β) (l : List α) (i : Nat) (x : α) : (insL l i x).map f = insL (l.map f) i (f x) := by simp [insL]
/-- the rows behind the copies of slices.Insert, where it grows -/
theorem ins_grow {β : Type} (l : List β) (i : Nat) (x z : β) (h : i < l.length) :
    (((l.take i ++ List.replicate (l.length + 1 - i) z).take i ++ [x] ++ (l.take i ++ List.replicate (l.length + 1 - i) z).drop (i + 1)).take (i + 1) ++ l.drop i ++
      ((l.take i ++ List.replicate (l.length + 1 - i) z).take i ++ [x] ++ (l.take i ++ List.replicate (l.length + 1 - i) z).drop (i + 1)).drop (i + 1 + (l.length - i))) = insL l i x := by
  have h1 : (l.take i).length = i := by simp; omega
  have e1 : (l.take i ++ List.replicate (l.length + 1 - i) z).take i = l.take i := by rw [List.take_append_of_le_length (by omega), List.take_take]; simp
  rw [e1]
  generalize hd : (l.take i ++ List.replicate (l.length + 1 - i) z).drop (i + 1) = d
  have hdl : d.length = l.length - i := by rw [← hd]; simp; omega
  have h2 : (l.take i ++ [x]).length = i + 1 := by simp; omega
  have e2 : (l.take i ++ [x] ++ d).take (i + 1) = l.take i ++ [x] := by rw [List.take_append_of_le_length (by omega), List.take_of_length_le (by omega)]
  have e3 : (l.take i ++ [x] ++ d).drop (i + 1 + (l.length - i)) = [] := List.drop_of_length_le (by rw [List.length_append, h2, hdl]; omega)
  rw [e2, e3]
  simp [insL]
/-- .. where there is room -/
theorem ins_room {β : Type} (l : List β) (i : Nat) (x : β) (h : i < l.length) :
    ((l.take (i + 1) ++ l.drop i ++ l.drop (i + 1 + (l.length - i))).take i ++ [x] ++ (l.take (i + 1) ++ l.drop i ++ l.drop (i + 1 + (l.length - i))).drop (i + 1)) = insL l i x := by
  have e0 : l.drop (i + 1 + (l.length - i)) = [] := List.drop_of_length_le (by omega)
  have h1 : (l.take (i + 1)).length = i + 1 := by simp; omega
  rw [e0, List.append_nil]
  have e1 : (l.take (i + 1) ++ l.drop i).take i = l.take i := by rw [List.take_append_of_le_length (by omega), List.take_take, Nat.min_eq_left (by omega)]
  have e2 : (l.take (i + 1) ++ l.drop i).drop (i + 1) = l.drop i := by rw [List.drop_append_of_le_length (by omega), List.drop_of_length_le (by omega)]; rfl
  rw [e1, e2]
  simp [insL]
end Go.Pl
namespace Go.Proofs.Ytinddhlmgiahiaa
open Go Go.RT Go.Proofs Go.Pl
set_option linter.all false
set_option maxRecDepth 20000
abbrev zCells : List FV := [If .u32 0, If .i64 0, If .i64 0, If .i64 0, If .i64 0, If .i64 0, .lit (.slice none 0 0)]
instance : FnOv Try.prog 74 22   := ⟨_, 4, Try.func74, by decide +kernel, rfl, by kernel_rfl, by kernel_rfl⟩
theorem insRts_c (l : List Rte) (x : Rte) (i : Nat) (hn : l.length ≤ 2000000) (hi : i ≤ l.length) : Meets Try.prog 61 [.sl 0 7 0 l.length, IV .i64 i, .sl 1 7 0 1] 2 [(0, ORts l), (1, ORts [x])] (.sl 2 7 0 (l.length + 1)) [(2, ORts (insL l i x))] 3 := by
  have hil := insL_len l i x hi
  have e0 : ∀ xs ys : List Rte, List.map encRt (xs ++ ys) = xs.map encRt ++ ys.map encRt := fun xs ys => List.map_append
  refine Meets.intro Try.func61 rfl (Nat.le_of_ble_eq_true rfl) fun C hC => ?_
  simp only [List.map, argEnv, Nat.reduceAdd]
  by_cases hie : i = l.length
  · refine nK ?_
    refine s_reg rfl ?_
    refine Run.pure (dd := some 6) rfl rfl (op_assign rfl (Opd.const _)) ?_
    refine Run.nil (FinR.mk ?_)
    refine nK ?_
    refine s_reg rfl ?_
    refine Run.pure (dd := some 10) rfl rfl (op_move rfl (Opd.tmp _ _ rfl)) ?_
    refine Run.pure (dd := some 11) rfl rfl (op_move rfl (Opd.tmp _ _ rfl)) ?_
    refine Run.load (dd := some 12) rfl rfl (op_slice_end (l := i) (h := l.length) rfl (Opd.tmp _ _ rfl) (Bnd.yes _ _ _ _ _ (Opd.tmp _ _ rfl) tQ) (Bnd.no _) (by intro _; refine ⟨rfl, ?_⟩; rw [List.length_map]; omega)) ?_
    refine Run.nil (FinR.mk ?_)
    refine nK ?_
    refine s_reg rfl ?_
    refine Run.pure (dd := some 13) rfl rfl (op_move rfl (Opd.tmp _ _ rfl)) ?_
    refine Run.pure (dd := some 14) rfl rfl (op_len_sl rfl (Opd.tmp _ _ rfl)) ?_
    refine Run.pure (dd := some 7) rfl rfl (op_assign rfl (Opd.tmp _ _ rfl)) ?_
    refine Run.nil (FinR.mk ?_)
    refine nK ?_
    refine s_reg rfl ?_
    refine Run.pure (dd := some 15) rfl rfl (op_move rfl (Opd.tmp _ _ rfl)) ?_
    refine Run.pure (dd := some 16) rfl rfl (op_eql rfl (Opd.tmp _ _ rfl) (Opd.const _)) ?_
    refine Run.nil (FinR.mk ?_)
    refine nK ?_
    refine n_cond _ rfl (fun hb => ?_) (fun hb => ?_)
    · simp at hb
    · refine nK ?_
      refine s_reg rfl ?_
      refine Run.pure (dd := some 18) rfl rfl (op_move rfl (Opd.tmp _ _ rfl)) ?_
      refine Run.pure (dd := some 19) rfl rfl (op_len_sl rfl (Opd.tmp _ _ rfl)) ?_
      refine Run.pure (dd := some 8) rfl rfl (op_assign rfl (Opd.tmp _ _ rfl)) ?_
      refine Run.nil (FinR.mk ?_)
      refine nK ?_
      refine s_reg rfl ?_
      refine Run.pure (dd := some 20) rfl rfl (op_move rfl (Opd.tmp _ _ rfl)) ?_
      refine Run.pure (dd := some 21) rfl rfl (op_move rfl (Opd.tmp _ _ rfl)) ?_
      refine Run.pure (dd := some 22) rfl rfl (op_eql rfl (Opd.tmp _ _ rfl) (Opd.tmp _ _ rfl)) ?_
      refine Run.nil (FinR.mk ?_)
      refine nK ?_
      refine n_cond _ rfl (fun hb => ?_) (fun hb => ?_)
      · have e4 : insL l i x = l ++ [x] := by rw [hie]; simp [insL]
        refine nK ?_
        refine s_reg rfl ?_
        refine Run.pure (dd := some 23) rfl rfl (op_move rfl (Opd.tmp _ _ rfl)) ?_
        refine Run.pure (dd := some 24) rfl rfl (op_move rfl (Opd.tmp _ _ rfl)) ?_
        refine Run.eff (dd := some 25) rfl rfl (op_append_own0 rfl (Opd.tmp _ _ rfl) (Opd.tmp _ _ rfl) rfl (by first | rfl | simp) rfl (by first | rfl | simp) rfl rfl tB tB) ?_
        refine Run.pure (dd := some 6) rfl rfl (op_assign rfl (Opd.tmp _ _ rfl)) ?_
        refine Run.nil (FinR.mk ?_)
        refine nK ?_
        refine Next.weakS [0, 2, 6] [] (by rfl) (keepsN hC _ rfl) (G' := [(6, .sl 2 7 0 (l.length + 1))]) (H' := [(2, ORts (insL l i x))]) (by exact ⟨⟨_, rfl, .inl ⟨rfl, rfl⟩⟩, trivial⟩) (by exact ⟨ent_same rfl rfl (by rw [e4, e0]; rfl) trivial, trivial⟩) rfl ?_
        exact n_out1 rfl (by rfl) rfl rfl
      · exfalso; simp at hb; omega
  · refine nK ?_
    refine s_reg rfl ?_
    refine Run.pure (dd := some 6) rfl rfl (op_assign rfl (Opd.const _)) ?_
    refine Run.nil (FinR.mk ?_)
    refine nK ?_
    refine s_reg rfl ?_
    refine Run.pure (dd := some 10) rfl rfl (op_move rfl (Opd.tmp _ _ rfl)) ?_
    refine Run.pure (dd := some 11) rfl rfl (op_move rfl (Opd.tmp _ _ rfl)) ?_
    refine Run.load (dd := some 12) rfl rfl (op_slice_view (l := i) (h := l.length) rfl (Opd.tmp _ _ rfl) (Bnd.yes _ _ _ _ _ (Opd.tmp _ _ rfl) tQ) (Bnd.no _) (by intro _; refine ⟨rfl, ?_⟩; rw [List.length_map]; omega)) ?_
    refine Run.nil (FinR.mk ?_)
    refine nK ?_
    refine s_reg rfl ?_
    refine Run.pure (dd := some 13) rfl rfl (op_move rfl (Opd.tmp _ _ rfl)) ?_
    refine Run.pure (dd := some 14) rfl rfl (op_len_sl rfl (Opd.tmp _ _ rfl)) ?_
    refine Run.pure (dd := some 7) rfl rfl (op_assign rfl (Opd.tmp _ _ rfl)) ?_
    refine Run.nil (FinR.mk ?_)
    refine nK ?_
    refine s_reg rfl ?_
    refine Run.pure (dd := some 15) rfl rfl (op_move rfl (Opd.tmp _ _ rfl)) ?_
    refine Run.pure (dd := some 16) rfl rfl (op_eql rfl (Opd.tmp _ _ rfl) (Opd.const _)) ?_
    refine Run.nil (FinR.mk ?_)
    refine nK ?_
    refine n_cond _ rfl (fun hb => ?_) (fun hb => ?_)
    · simp at hb
    · refine nK ?_
      refine s_reg rfl ?_
      refine Run.pure (dd := some 18) rfl rfl (op_move rfl (Opd.tmp _ _ rfl)) ?_
      refine Run.pure (dd := some 19) rfl rfl (op_len_sl rfl (Opd.tmp _ _ rfl)) ?_
      refine Run.pure (dd := some 8) rfl rfl (op_assign rfl (Opd.tmp _ _ rfl)) ?_
      refine Run.nil (FinR.mk ?_)
      refine nK ?_
      refine s_reg rfl ?_
      refine Run.pure (dd := some 20) rfl rfl (op_move rfl (Opd.tmp _ _ rfl)) ?_
      refine Run.pure (dd := some 21) rfl rfl (op_move rfl (Opd.tmp _ _ rfl)) ?_
      refine Run.pure (dd := some 22) rfl rfl (op_eql rfl (Opd.tmp _ _ rfl) (Opd.tmp _ _ rfl)) ?_
      refine Run.nil (FinR.mk ?_)
      refine nK ?_
      refine n_cond _ rfl (fun hb => ?_) (fun hb => ?_)
      · exfalso; simp at hb; omega
      · refine Next.capE 0 rfl rfl rfl (Nat.zero_le _) fun cap hc1 hc2 hc3 => ?_
        unfold maxLen at hc3
        refine nK ?_
        refine s_reg rfl ?_
        refine Run.pure (dd := some 26) rfl rfl (op_move rfl (Opd.tmp _ _ rfl)) ?_
        refine Run.pure (dd := some 27) rfl rfl (op_move rfl (Opd.tmp _ _ rfl)) ?_
        refine Run.pure (dd := some 28) rfl rfl (op_add rfl (Opd.tmp _ _ rfl) (Opd.tmp _ _ rfl) tI) ?_
        refine Run.pure (dd := some 29) rfl rfl (op_move rfl (Opd.tmp _ _ rfl)) ?_
        refine Run.pure (dd := some 30) rfl rfl (op_cap rfl (Opd.tmp _ _ rfl)) ?_
        refine Run.pure (dd := some 31) rfl rfl (op_gtr rfl (Opd.tmp _ _ rfl) (Opd.tmp _ _ rfl)) ?_
        refine Run.nil (FinR.mk ?_)
        refine nK ?_
        refine n_cond _ rfl (fun hb => ?_) (fun hb => ?_)
        · have hc4 : cap < l.length + 1 := by simp at hb; omega
          have hlen2 : ((l.map encRt).take i ++ List.replicate (l.length + 1 - i) (zCells)).length = l.length + 1 := by simp; omega
          refine nK ?_
          refine s_reg rfl ?_
          refine Run.pure (dd := some 32) rfl rfl (op_move rfl (Opd.tmp _ _ rfl)) ?_
          refine Run.pure (dd := some 33) rfl rfl (op_move rfl (Opd.tmp _ _ rfl)) ?_
          refine Run.pure (dd := some 34) rfl rfl (op_slice_room (h := i) rfl (Opd.tmp _ _ rfl) (Bnd.yes _ _ _ _ _ (Opd.tmp _ _ rfl) tQ) (by intro _; omega)) ?_
          refine Run.pure (dd := some 35) rfl rfl (op_move rfl (Opd.tmp _ _ rfl)) ?_
          refine Run.pure (dd := some 36) rfl rfl (op_move rfl (Opd.tmp _ _ rfl)) ?_
          refine Run.pure (dd := some 37) rfl rfl (op_add rfl (Opd.tmp _ _ rfl) (Opd.tmp _ _ rfl) tI) ?_
          refine Run.pure (dd := some 38) rfl rfl (op_move rfl (Opd.tmp _ _ rfl)) ?_
          refine Run.pure (dd := some 39) rfl rfl (op_sub rfl (Opd.tmp _ _ rfl) (Opd.tmp _ _ rfl) tI) ?_
          refine Run.eff (dd := some 40) rfl rfl (op_append_zg (k := l.length + 1 - i) (zs := zCells) rfl (Opd.tmp _ _ rfl) (opdI (Opd.tmp _ _ rfl) (by omega)) rfl rfl rfl rfl rfl (by rw [List.length_map]; omega) (by omega) (by omega) (by omega) (by omega)) ?_
          refine Run.pure (dd := some 9) rfl rfl (op_assign rfl (Opd.tmp _ _ rfl)) ?_
          refine Run.nil (FinR.mk ?_)
          refine nK ?_
          have hz : ∀ k : Nat, (some (Ob.flat 7 ((l.map encRt).take i ++ List.replicate k zCells))) = some (.flat 7 ((l.map encRt).take i ++ List.replicate k (zCells))) := fun _ => rfl
          refine nK ?_
          refine s_reg rfl ?_
          refine Run.pure (dd := some 41) rfl rfl (op_move rfl (Opd.tmp _ _ rfl)) ?_
          refine Run.pure (dd := some 42) rfl rfl (op_move rfl (Opd.tmp _ _ rfl)) ?_
          refine Run.load (dd := some 43) rfl rfl (op_slice_view (l := i) (h := i + (l.length + 1 - i)) rfl (Opd.tmp _ _ rfl) (Bnd.yes _ _ _ _ _ (Opd.tmp _ _ rfl) tQ) (Bnd.no _) (by intro _; refine ⟨rfl, ?_⟩; rw [hlen2]; omega)) ?_
          refine Run.pure (dd := some 44) rfl rfl (op_move rfl (Opd.tmp _ _ rfl)) ?_
          refine Run.eff (dd := some 45) rfl rfl (op_copy (n := 1) (rs := [x].map encRt) rfl (Opd.tmp _ _ rfl) (Opd.tmp _ _ rfl) rfl rfl (by show min _ _ = _; omega) rfl rfl (by rw [hlen2]; omega)) ?_
          refine Run.nil (FinR.mk ?_)
          refine nK ?_
          have hlen3 : (((l.map encRt).take i ++ List.replicate (l.length + 1 - i) (zCells)).take (0 + i) ++ [x].map encRt ++ ((l.map encRt).take i ++ List.replicate (l.length + 1 - i) (zCells)).drop (0 + i + 1)).length = l.length + 1 := by simp; omega
          refine nK ?_
          refine s_draw mixed ?_
          refine Run.pure (dd := some 46) rfl rfl (op_move rfl (Opd.tmp _ _ rfl)) ?_
          refine Run.pure (dd := some 47) rfl rfl (op_move rfl (Opd.tmp _ _ rfl)) ?_
          refine Run.pure (dd := some 48) rfl rfl (op_move rfl (Opd.tmp _ _ rfl)) ?_
          refine Run.pure (dd := some 49) rfl rfl (op_add rfl (Opd.tmp _ _ rfl) (Opd.tmp _ _ rfl) tI) ?_
          refine Run.load (dd := some 50) rfl rfl (op_slice_view (l := i + 1) (h := i + (l.length + 1 - i)) rfl (Opd.tmp _ _ rfl) (Bnd.yes _ _ _ _ _ (Opd.tmp _ _ rfl) tQ) (Bnd.no _) (by intro _; refine ⟨rfl, ?_⟩; rw [hlen3]; omega)) ?_
          refine Run.pure (dd := some 51) rfl rfl (op_move rfl (Opd.tmp _ _ rfl)) ?_
          refine Run.pure (dd := some 52) rfl rfl (op_move rfl (Opd.tmp _ _ rfl)) ?_
          refine Run.load (dd := some 53) rfl rfl (op_slice_view (l := i) (h := l.length) rfl (Opd.wc _ _ _ (Opd.tmp _ _ rfl)) (Bnd.yes _ _ _ _ _ (Opd.tmp _ _ rfl) tQ) (Bnd.no _) (by intro _; refine ⟨rfl, ?_⟩; rw [List.length_map]; omega)) ?_
          refine Run.effW (dd := some 54) rfl rfl (op_copy (n := l.length - i) (rs := (l.map encRt).drop i) rfl (Opd.tmp _ _ rfl) (Opd.tmp _ _ rfl) rfl rfl (by show min _ _ = _; omega) (by rw [Nat.zero_add, List.take_of_length_le (by simp)]) (by simp) (by rw [hlen3]; omega)) tE ?_
          refine Run.nil (FinD.mk (by kernel_rfl) ?_)
          refine nK ?_
          have hgr := ins_grow (l.map encRt) i (encRt x) (zCells) (by rw [List.length_map]; omega)
          rw [List.length_map, ← insL_map] at hgr
          refine nK ?_
          refine s_reg rfl ?_
          refine Run.pure (dd := some 55) rfl rfl (op_move rfl (Opd.tmp _ _ rfl)) ?_
          refine Run.pure (dd := some 6) rfl rfl (op_assign rfl (Opd.tmp _ _ rfl)) ?_
          refine Run.nil (FinR.mk ?_)
          refine nK ?_
          refine Next.weakS [0, 2, 6] [] (by rfl) (keepsN hC _ rfl) (G' := [(6, .sl 2 7 0 (l.length + 1))]) (H' := [(2, ORts (insL l i x))]) (by exact ⟨⟨_, rfl, .inl ⟨slEq rfl (by omega), rfl⟩⟩, trivial⟩) (by exact ⟨ent_same rfl rfl (by rw [← hgr]; simp only [Nat.zero_add]; rfl) trivial, trivial⟩) rfl ?_
          exact n_out1 rfl (by rfl) rfl rfl
        · have hc4 : l.length + 1 ≤ cap := by simp at hb; omega
          refine nK ?_
          refine s_reg rfl ?_
          refine Run.pure (dd := some 56) rfl rfl (op_move rfl (Opd.tmp _ _ rfl)) ?_
          refine Run.pure (dd := some 57) rfl rfl (op_move rfl (Opd.tmp _ _ rfl)) ?_
          refine Run.pure (dd := some 58) rfl rfl (op_move rfl (Opd.tmp _ _ rfl)) ?_
          refine Run.pure (dd := some 59) rfl rfl (op_add rfl (Opd.tmp _ _ rfl) (Opd.tmp _ _ rfl) tI) ?_
          refine Run.pure (dd := some 60) rfl rfl (op_slice_room (h := l.length + 1) rfl (Opd.tmp _ _ rfl) (Bnd.yes _ _ _ _ _ (Opd.tmp _ _ rfl) (by intro _; simp)) (by intro _; omega)) ?_
          refine Run.pure (dd := some 0) rfl rfl (op_assign rfl (Opd.tmp _ _ rfl)) ?_
          refine Run.nil (FinR.mk ?_)
          refine nK ?_
          refine nK ?_
          refine s_reg rfl ?_
          refine Run.pure (dd := some 61) rfl rfl (op_move rfl (Opd.tmp _ _ rfl)) ?_
          refine Run.pure (dd := some 62) rfl rfl (op_move rfl (Opd.tmp _ _ rfl)) ?_
          refine Run.pure (dd := some 63) rfl rfl (op_move rfl (Opd.tmp _ _ rfl)) ?_
          refine Run.pure (dd := some 64) rfl rfl (op_move rfl (Opd.tmp _ _ rfl)) ?_
          refine Run.pure (dd := some 65) rfl rfl (op_add rfl (Opd.tmp _ _ rfl) (Opd.tmp _ _ rfl) tI) ?_
          refine Run.pure (dd := some 66) rfl rfl (op_slice_fromR (l := i + 1) rfl (Opd.tmp _ _ rfl) (Bnd.yes _ _ _ _ _ (Opd.tmp _ _ rfl) tQ) (by intro _; omega)) ?_
          refine Run.load (dd := some 67) rfl rfl (op_overlaps rfl (Opd.tmp _ _ rfl) (Opd.tmp _ _ rfl) rfl rfl rfl (by rw [List.length_map]; omega) rfl) ?_
          refine Run.pure (dd := some 68) rfl rfl (op_not rfl (Opd.tmp _ _ rfl)) ?_
          refine Run.nil (FinR.mk ?_)
          refine nK ?_
          refine n_cond _ rfl (fun hb => ?_) (fun hb => ?_)
          · refine nK ?_
            refine s_draw mixed ?_
            refine Run.pure (dd := some 69) rfl rfl (op_move rfl (Opd.tmp _ _ rfl)) ?_
            refine Run.pure (dd := some 70) rfl rfl (op_move rfl (Opd.tmp _ _ rfl)) ?_
            refine Run.pure (dd := some 71) rfl rfl (op_move rfl (Opd.tmp _ _ rfl)) ?_
            refine Run.pure (dd := some 72) rfl rfl (op_add rfl (Opd.tmp _ _ rfl) (Opd.tmp _ _ rfl) tI) ?_
            refine Run.pure (dd := some 73) rfl rfl (op_slice_fromR (l := i + 1) rfl (Opd.tmp _ _ rfl) (Bnd.yes _ _ _ _ _ (Opd.tmp _ _ rfl) tQ) (by intro _; omega)) ?_
            refine Run.pure (dd := some 74) rfl rfl (op_move rfl (Opd.tmp _ _ rfl)) ?_
            refine Run.pure (dd := some 75) rfl rfl (op_move rfl (Opd.tmp _ _ rfl)) ?_
            refine Run.pure (dd := some 76) rfl rfl (op_slice_fromR (l := i) rfl (Opd.tmp _ _ rfl) (Bnd.yes _ _ _ _ _ (Opd.tmp _ _ rfl) tQ) (by intro _; omega)) ?_
            refine Run.effW (dd := some 77) rfl rfl (op_copy (n := l.length - i) (rs := (l.map encRt).drop i) rfl (Opd.tmp _ _ rfl) (Opd.tmp _ _ rfl) rfl rfl (by show min _ _ = _; omega) (by rw [Nat.zero_add, List.take_of_length_le (by simp)]) (by simp) (by rw [List.length_map]; omega)) tE ?_
            refine Run.nil (FinD.mk (by kernel_rfl) ?_)
            refine nK ?_
            have hl5 : ((l.map encRt).take (0 + (i + 1)) ++ (l.map encRt).drop i ++ (l.map encRt).drop (0 + (i + 1) + (l.length - i))).length = l.length + 1 := by simp; omega
            have hgr := ins_room (l.map encRt) i (encRt x) (by rw [List.length_map]; omega)
            rw [List.length_map, ← insL_map] at hgr
            refine nK ?_
            refine s_reg rfl ?_
            refine Run.pure (dd := some 78) rfl rfl (op_move rfl (Opd.tmp _ _ rfl)) ?_
            refine Run.pure (dd := some 79) rfl rfl (op_move rfl (Opd.tmp _ _ rfl)) ?_
            refine Run.load (dd := some 80) rfl rfl (op_slice_view (l := i) (h := l.length + 1) rfl (Opd.wc _ _ _ (Opd.tmp _ _ rfl)) (Bnd.yes _ _ _ _ _ (Opd.tmp _ _ rfl) tQ) (Bnd.no _) (by intro _; refine ⟨rfl, ?_⟩; rw [hl5]; omega)) ?_
            refine Run.pure (dd := some 81) rfl rfl (op_move rfl (Opd.tmp _ _ rfl)) ?_
            refine Run.eff (dd := some 82) rfl rfl (op_copy (n := 1) (rs := [x].map encRt) rfl (Opd.tmp _ _ rfl) (Opd.tmp _ _ rfl) rfl rfl (by show min _ _ = _; omega) rfl rfl (by rw [hl5]; omega)) ?_
            refine Run.nil (FinR.mk ?_)
            refine nK ?_
            refine s_reg rfl ?_
            refine Run.pure (dd := some 83) rfl rfl (op_move rfl (Opd.tmp _ _ rfl)) ?_
            refine Run.pure (dd := some 6) rfl rfl (op_assign rfl (Opd.tmp _ _ rfl)) ?_
            refine Run.nil (FinR.mk ?_)
            refine nK ?_
            refine Next.unwc 6 rfl ?_
            refine Next.retag 6 rfl rfl ?_
            refine Next.weakS [0, 2, 6] [] (by rfl) (keepsN hC _ rfl) (G' := [(6, .sl 2 7 0 (l.length + 1))]) (H' := [(2, ORts (insL l i x))]) (by exact ⟨⟨_, rfl, .inl ⟨rfl, rfl⟩⟩, trivial⟩) (by exact ⟨ent_same rfl rfl (by rw [← hgr]; simp only [Nat.zero_add]; rfl) trivial, trivial⟩) rfl ?_
            exact n_out1 rfl (by rfl) rfl rfl
          · exfalso; simp at hb
end Go.Proofs.Ytinddhlmgiahiaa
/- The search in halves finds the place. No program in sight. -/
namespace Go.Pl
open Go Go.RT
set_option linter.all false
instance : Inhabited Rte := ⟨zRte⟩
theorem bs_ins {l : List Rte} {r : Rte} (h : l.Pairwise ltRt) : insRt r l = insL l (bsGo (befR r) l 0 l.length) r ∧ bsGo (befR r) l 0 l.length ≤ l.length := by
  have h1 := (bsGo_le (befR r) l l.length 0 l.length (by omega) (Nat.zero_le _) (Nat.le_refl _)).2
  obtain ⟨s1, s2⟩ := bsGo_spec (befR r) l (fun a b ha hb hp => befR_iff.2 ((List.pairwise_iff_getElem.1 h a b (by omega) hb ha).trans (befR_iff.1 hp))) l.length 0 l.length (by omega) (Nat.zero_le _) (Nat.le_refl _) (fun k hk => absurd hk (by omega)) (fun k hk hl => absurd hl (by omega))
  refine ⟨place_eq h h1 (fun h0 => befR_iff.1 (s1 _ (by omega) (by omega))) fun hlt k => ?_, h1⟩
  have := s2 _ (Nat.le_refl _) hlt
  rw [befR_iff.2 k] at this; cases this
theorem filt_take {l : List Rte} (p : Rte → Bool) {i : Nat} (h : i < l.length) : (l.take (i + 1)).filter p = (l.take i).filter p ++ if p l[i] = true then [l[i]] else [] := by
  rw [List.take_succ_eq_append_getElem h, List.filter_append]
  by_cases c : p l[i] = true
  · rw [if_pos c, List.filter_cons_of_pos c]; rfl
  · rw [if_neg c, List.filter_cons_of_neg c]; rfl
end Go.Pl
namespace Go.Proofs.Ytinddhlmgiahiaa
open Go Go.RT Go.Proofs Go.Pl
set_option linter.all false
set_option maxRecDepth 20000
theorem without_f (l : List Rte) (hn : l.length ≤ 4000) (hh : ∀ x ∈ l, x.hs.length ≤ 64) (gf : Nat) [FnB Try.prog gf] (caps : List FV) (p : Rte → Bool) (hp : ∀ x, Pure Try.prog gf ([.agg (encRt x)] ++ caps) (Bf (p x))) : Meets Try.prog 36 ([VRt l, .clo gf caps].map PV.fz) 0 [] (.sl 0 7 0 (l.filter fun x => !p x).length) [(0, ORts (l.filter fun x => !p x))] 1 := by
  refine Meets.intro Try.func36 rfl (Nat.le_of_ble_eq_true rfl) fun C hC => ?_
  simp only [List.map, argEnv, Nat.reduceAdd]
  refine nK ?_
  refine s_reg rfl ?_
  refine Run.pure (dd := some 4) rfl rfl (op_assign rfl (Opd.const _)) ?_
  refine Run.nil (FinR.mk ?_)
  refine nK ?_
  refine s_reg rfl ?_
  refine Run.pure (dd := some 5) rfl rfl (op_assign rfl (Opd.const _)) ?_
  refine Run.nil (FinR.mk ?_)
  refine nK ?_
  refine Next.adopt 5 7 rfl ?_
  refine nK ?_
  refine s_reg rfl ?_
  refine Run.pure (dd := some 8) rfl rfl (op_move rfl (Opd.tmp _ _ rfl)) ?_
  refine Run.pure (dd := some 9) rfl rfl (op_len_fz rfl (by first | exact Opd.tmp _ _ rfl | exact Opd.nil _ _ (Opd.tmp _ _ rfl)) (by first | exact List.length_map _ | rfl)) ?_
  refine Run.pure (dd := some 10) rfl rfl (op_move rfl (Opd.const _)) ?_
  refine Run.nil (FinR.mk ?_)
  refine nK ?_
  refine n_loop (ι := Nat × List Rte) (fun g => ([(1, .fz (.clo gf caps)), (5, .sl 0 7 0 g.2.length), (8, .fz (VRt l)), (9, IV .i64 l.length), (10, IV .i64 g.1)], [(0, ORts g.2)], 1)) (fun g => g.1 ≤ l.length ∧ g.2 = (l.take g.1).filter fun x => !p x) (fun g => l.length - g.1) (0, []) ⟨Nat.zero_le _, by simp⟩ ?_ ?_
  · refine Next.weakS [5] [] (by rfl) (by first | exact keeps0 hC _ | exact keepsN hC _ rfl) (by repeat (first | exact trivial | refine ⟨⟨_, rfl, .inl ⟨rfl, rfl⟩⟩, ?_⟩ | refine ⟨⟨_, rfl, .inl ⟨slEq rfl tN, rfl⟩⟩, ?_⟩ | refine ⟨⟨_, rfl, .inl ⟨ivEq tX, rfl⟩⟩, ?_⟩)) (by repeat (first | exact trivial | refine ⟨ent_same rfl rfl rfl tL, ?_⟩ | refine ⟨ent_same rfl rfl (rfEq rfl tU) tL, ?_⟩ | refine ⟨ent_same rfl rfl (flEq rfl (by first | (simp; done) | (simp; omega) | (simp [encHo, encRt, encP]; done) | simp [maxC, minC])) trivial, ?_⟩)) rfl (rel_intro)
  · intro ⟨i, out⟩ ⟨hi, hS⟩ K hK
    dsimp only at hi hS ⊢
    have hol : out.length ≤ i := by rw [hS]; exact Nat.le_trans (List.length_filter_le _ _) (by simp; omega)
    refine nK ?_
    refine s_reg rfl ?_
    refine Run.pure (dd := some 11) rfl rfl (op_lss rfl (Opd.tmp _ _ rfl) (Opd.tmp _ _ rfl)) ?_
    refine Run.nil (FinR.mk ?_)
    refine nK ?_
    refine n_cond _ rfl (fun hb => ?_) (fun hb => ?_)
    · have hlt : i < l.length := by simp at hb; omega
      have hr1 := row_at' encRt l i hlt
      have hs := filt_take (fun x => !p x) hlt
      rw [← hS] at hs
      have hK1 := fun o h => hK (i + 1, o) ⟨by dsimp only; omega, h⟩ (by dsimp only; omega)
      dsimp only at hK1
      have lx := hh _ (List.getElem_mem hlt)
      generalize l[i] = x at *
      have kcl := clonert_c x (by omega)
      have kp := hp x
      refine nK ?_
      refine s_reg rfl ?_
      refine Run.pure (dd := some 12) rfl rfl (op_idx_fz _ rfl (Opd.tmp _ _ rfl) (Opd.tmp _ _ rfl) tF) ?_
      refine Run.pure (dd := some 13) rfl rfl (op_loadw_fz rfl (Opd.tmp _ _ rfl) rfl) ?_
      refine Run.eff (dd := some 7) rfl rfl (op_alloc rfl rfl rfl rfl) ?_
      refine Run.eff (dd := none) rfl rfl (op_store_flat rfl (Opd.tmp _ _ rfl) (Opd.tmp _ _ rfl) tC rfl rfl (by first | rfl | assumption) tS) ?_
      refine Run.nil (FinR.mk ?_)
      refine nK ?_
      refine s_reg rfl ?_
      refine Run.pure (dd := some 14) rfl rfl (op_move rfl (Opd.tmp _ _ rfl)) ?_
      refine Run.load (dd := some 15) rfl rfl (op_loadw_flat rfl (Opd.tmp _ _ rfl) tH rfl) ?_
      refine Run.pure (dd := some 16) rfl rfl (op_call_pureC (fun _ => kp) rfl (Opd.tmp _ _ rfl) (Opds.cons _ _ _ _ (Opd.tmp _ _ rfl) Opds.nil)) ?_
      refine Run.pure (dd := some 17) rfl rfl (op_not rfl (Opd.tmp _ _ rfl)) ?_
      refine Run.nil (FinR.mk ?_)
      refine nK ?_
      refine n_cond _ rfl (fun hb => ?_) (fun hb => ?_)
      · rw [if_pos hb] at hs
        have e1 : (out ++ [x]).length = out.length + 1 := by simp
        have e2 : (out ++ [x]).map encRt = out.map encRt ++ [encRt x] := by simp
        have hK2 := hK1 (out ++ [x]) hs.symm
        unfold ORts at hK2
        rw [e1, e2] at hK2
        refine nK ?_
        refine s_reg rfl ?_
        refine Run.pure (dd := some 18) rfl rfl (op_move rfl (Opd.tmp _ _ rfl)) ?_
        refine Run.load (dd := some 19) rfl rfl (op_loadw_flat rfl (Opd.tmp _ _ rfl) tH rfl) ?_
        refine Run.pure (dd := some 20) rfl rfl (op_call_pure (fun _ => kcl) rfl (Opd.func _) (Opds.cons _ _ _ _ (Opd.tmp _ _ rfl) Opds.nil)) ?_
        refine Run.pure (dd := some 21) rfl rfl (op_buildSlice_fz rfl (RowsF.cons _ _ _ _ _ _ (Opd.tmp _ _ rfl) tC (by rfl) (RowsF.nil _)) rfl rfl) ?_
        refine Run.eff (dd := some 22) rfl rfl (op_append rfl (Opd.tmp _ _ rfl) (Opd.tmp _ _ rfl) rfl (by simp) rfl rfl tB tB) ?_
        refine Run.pure (dd := some 5) rfl rfl (op_assign rfl (Opd.tmp _ _ rfl)) ?_
        refine Run.nil (FinR.mk ?_)
        refine nK ?_
        refine s_reg rfl ?_
        refine Run.pure (dd := some 23) rfl rfl (op_add rfl (Opd.tmp _ _ rfl) (Opd.const _) tI) ?_
        refine Run.pure (dd := some 10) rfl rfl (op_move rfl (Opd.tmp _ _ rfl)) ?_
        refine Run.nil (FinR.mk ?_)
        refine nK ?_
        refine Next.weakS [5] [] (by rfl) (by first | exact keeps0 hC _ | exact keepsN hC _ rfl) (by repeat (first | exact trivial | refine ⟨⟨_, rfl, .inl ⟨rfl, rfl⟩⟩, ?_⟩ | refine ⟨⟨_, rfl, .inl ⟨slEq rfl tN, rfl⟩⟩, ?_⟩ | refine ⟨⟨_, rfl, .inl ⟨ivEq tX, rfl⟩⟩, ?_⟩)) (by repeat (first | exact trivial | refine ⟨ent_same rfl rfl rfl tL, ?_⟩ | refine ⟨ent_same rfl rfl (rfEq rfl tU) tL, ?_⟩ | refine ⟨ent_same rfl rfl (flEq rfl (by first | (simp; done) | (simp; omega) | (simp [encHo, encRt, encP]; done) | simp [maxC, minC])) trivial, ?_⟩)) rfl (hK2)
      · rw [if_neg (by rw [hb]; decide), List.append_nil] at hs
        refine nK ?_
        refine s_reg rfl ?_
        refine Run.pure (dd := some 23) rfl rfl (op_add rfl (Opd.tmp _ _ rfl) (Opd.const _) tI) ?_
        refine Run.pure (dd := some 10) rfl rfl (op_move rfl (Opd.tmp _ _ rfl)) ?_
        refine Run.nil (FinR.mk ?_)
        refine nK ?_
        refine Next.weakS [5] [] (by rfl) (by first | exact keeps0 hC _ | exact keepsN hC _ rfl) (by repeat (first | exact trivial | refine ⟨⟨_, rfl, .inl ⟨rfl, rfl⟩⟩, ?_⟩ | refine ⟨⟨_, rfl, .inl ⟨slEq rfl tN, rfl⟩⟩, ?_⟩ | refine ⟨⟨_, rfl, .inl ⟨ivEq tX, rfl⟩⟩, ?_⟩)) (by repeat (first | exact trivial | refine ⟨ent_same rfl rfl rfl tL, ?_⟩ | refine ⟨ent_same rfl rfl (rfEq rfl tU) tL, ?_⟩ | refine ⟨ent_same rfl rfl (flEq rfl (by first | (simp; done) | (simp; omega) | (simp [encHo, encRt, encP]; done) | simp [maxC, minC])) trivial, ?_⟩)) rfl ((hK1 out hs.symm))
    · have hie : i = l.length := by simp at hb; omega
      rw [hie, List.take_length] at hS
      subst hS
      refine nK ?_
      refine s_reg rfl ?_
      refine Run.pure (dd := some 24) rfl rfl (op_move rfl (Opd.tmp _ _ rfl)) ?_
      refine Run.pure (dd := some 4) rfl rfl (op_assign rfl (Opd.tmp _ _ rfl)) ?_
      refine Run.nil (FinR.mk ?_)
      refine nK ?_
      (first | exact s_o1 hC rfl tV | exact s_o2 hC rfl tV tV | exact s_o3 hC rfl tV tV tV | exact s_o4 hC rfl tV tV tV tV | exact s_out0 hC rfl | exact s_outO hC rfl rfl rfl)
abbrev bsR (r : Rte) (l : List Rte) : Nat := bsGo (befR r) l 0 l.length
abbrev bsHitR (r : Rte) (l : List Rte) : Bool := hitAt (fun e => decide (cmpRt e r = 0)) l (bsR r l)
theorem crt_c2 (a b : Rte) : Pure Try.prog 30 ([.agg (encRt a), .agg (encRt b)] ++ []) (If .i64 (cmpRt a b)) := crt_c a b
theorem bsrt_c (l : List Rte) (r : Rte) (hn : l.length ≤ 2000000) : Pure Try.prog 60 [VRt l, .agg (encRt r), .clo 30 []] (.tup [If .i64 (bsR r l : Nat), Bf (bsHitR r l)]) := by
  refine Meets.intro Try.func60 rfl (Nat.le_of_ble_eq_true rfl) fun C hC => ?_
  simp only [List.map, argEnv, Nat.reduceAdd]
  refine nK ?_
  refine s_reg rfl ?_
  refine Run.eff (dd := some 4) rfl rfl (op_box_flat rfl (Opd.tmp _ _ rfl) tC rfl) ?_
  refine Run.pure (dd := some 6) rfl rfl (op_assign rfl (Opd.const _)) ?_
  refine Run.pure (dd := some 7) rfl rfl (op_assign rfl (Opd.const _)) ?_
  refine Run.nil (FinR.mk ?_)
  refine nK ?_
  refine s_reg rfl ?_
  refine Run.pure (dd := some 12) rfl rfl (op_move rfl (Opd.tmp _ _ rfl)) ?_
  refine Run.pure (dd := some 13) rfl rfl (op_len_fz rfl (by first | exact Opd.tmp _ _ rfl | exact Opd.nil _ _ (Opd.tmp _ _ rfl)) (by first | exact List.length_map _ | rfl)) ?_
  refine Run.pure (dd := some 8) rfl rfl (op_assign rfl (Opd.tmp _ _ rfl)) ?_
  refine Run.nil (FinR.mk ?_)
  refine nK ?_
  refine s_reg rfl ?_
  refine Run.pure (dd := some 14) rfl rfl (op_move rfl (Opd.tmp _ _ rfl)) ?_
  refine Run.pure (dd := some 9) rfl rfl (op_assign rfl (Opd.const _)) ?_
  refine Run.pure (dd := some 10) rfl rfl (op_assign rfl (Opd.tmp _ _ rfl)) ?_
  refine Run.nil (FinR.mk ?_)
  refine nK ?_
  refine n_loop (ι := Nat × Nat) (fun g => ([(0, .fz (VRt l)), (2, .fz (.clo 30 [])), (4, .ptr 0 7 0 0), (8, IV .i64 l.length), (9, IV .i64 g.1), (10, IV .i64 g.2)], [(0, ORt r)], 1)) (fun g => g.1 ≤ g.2 ∧ g.2 ≤ l.length ∧ bsGo (befR r) l g.1 g.2 = bsGo (befR r) l 0 l.length) (fun g => g.2 - g.1) (0, l.length) ⟨Nat.zero_le _, Nat.le_refl _, rfl⟩ ?_ ?_
  · refine Next.weakS [4] [] (by rfl) (by first | exact keeps0 hC _ | exact keepsN hC _ rfl) (by repeat (first | exact trivial | refine ⟨⟨_, rfl, .inl ⟨rfl, rfl⟩⟩, ?_⟩ | refine ⟨⟨_, rfl, .inl ⟨slEq rfl tN, rfl⟩⟩, ?_⟩ | refine ⟨⟨_, rfl, .inl ⟨ivEq tX, rfl⟩⟩, ?_⟩)) (by repeat (first | exact trivial | refine ⟨ent_same rfl rfl rfl tL, ?_⟩ | refine ⟨ent_same rfl rfl (rfEq rfl tU) tL, ?_⟩ | refine ⟨ent_same rfl rfl (flEq rfl (by first | (simp; done) | (simp; omega) | (simp [encHo, encRt, encP]; done) | simp [maxC, minC])) trivial, ?_⟩)) rfl (rel_intro)
  · intro ⟨i, j⟩ ⟨hi, hj, ho⟩ K hK
    dsimp only at hi hj ho ⊢
    refine nK ?_
    refine s_reg rfl ?_
    refine Run.pure (dd := some 15) rfl rfl (op_move rfl (Opd.tmp _ _ rfl)) ?_
    refine Run.pure (dd := some 16) rfl rfl (op_move rfl (Opd.tmp _ _ rfl)) ?_
    refine Run.pure (dd := some 17) rfl rfl (op_lss rfl (Opd.tmp _ _ rfl) (Opd.tmp _ _ rfl)) ?_
    refine Run.nil (FinR.mk ?_)
    refine nK ?_
    refine n_cond _ rfl (fun hb => ?_) (fun hb => ?_)
    · have hlt : i < j := by simp at hb; omega
      have hm : (i + j) / 2 < l.length := by omega
      have hr1 := row_at' encRt l ((i + j) / 2) hm
      have hst := bsGo_step (befR r) l i j hlt hj
      rw [ho] at hst
      have hKl := fun h => hK (((i + j) / 2) + 1, j) ⟨by dsimp only; omega, by dsimp only; omega, h⟩ (by dsimp only; omega)
      have hKr := fun h => hK (i, (i + j) / 2) ⟨by dsimp only; omega, by dsimp only; omega, h⟩ (by dsimp only; omega)
      generalize l[(i + j) / 2] = e at *
      refine nK ?_
      refine s_reg rfl ?_
      refine Run.pure (dd := some 18) rfl rfl (op_move rfl (Opd.tmp _ _ rfl)) ?_
      refine Run.pure (dd := some 19) rfl rfl (op_move rfl (Opd.tmp _ _ rfl)) ?_
      refine Run.pure (dd := some 20) rfl rfl (op_add rfl (Opd.tmp _ _ rfl) (Opd.tmp _ _ rfl) tI) ?_
      refine Run.pure (dd := some 21) rfl rfl (op_conv rfl (Opd.tmp _ _ rfl) tI) ?_
      refine Run.pure (dd := some 22) rfl rfl (op_shr (n := 1) rfl (Opd.tmp _ _ rfl) (Opd.const _) (by intro _; simp only [IntKind.bits]; omega)) ?_
      refine Run.pure (dd := some 23) rfl rfl (op_conv rfl (Opd.tmp _ _ rfl) tI) ?_
      refine Run.pure (dd := some 11) rfl rfl (op_assign rfl (Opd.tmp _ _ rfl)) ?_
      refine Run.nil (FinR.mk ?_)
      refine nK ?_
      refine s_draw mixed ?_
      refine Run.pure (dd := some 24) rfl rfl (op_move rfl (Opd.tmp _ _ rfl)) ?_
      refine Run.pure (dd := some 25) rfl rfl (op_move rfl (Opd.tmp _ _ rfl)) ?_
      refine Run.pure (dd := some 26) rfl rfl (op_move rfl (Opd.tmp _ _ rfl)) ?_
      refine Run.pure (dd := some 27) rfl rfl (op_idx_fz ((i + j) / 2) rfl (Opd.tmp _ _ rfl) (Opd.tmp _ _ rfl) (by intro _; exact ⟨by omega, hr1⟩)) ?_
      refine Run.pure (dd := some 28) rfl rfl (op_loadw_fz rfl (Opd.tmp _ _ rfl) rfl) ?_
      refine Run.load (dd := some 29) rfl rfl (op_loadw_flat rfl (Opd.tmp _ _ rfl) tH rfl) ?_
      refine Run.pure (dd := some 30) rfl rfl (op_call_pureC (fun _ => crt_c2 e r) rfl (Opd.tmp _ _ rfl) (Opds.cons _ _ _ _ (Opd.tmp _ _ rfl) (Opds.cons _ _ _ _ (Opd.tmp _ _ rfl) Opds.nil))) ?_
      refine Run.pure (dd := some 31) rfl rfl (op_lss rfl (Opd.tmp _ _ rfl) (Opd.const _)) ?_
      refine Run.nil (FinD.mk (by kernel_rfl) ?_)
      refine nK ?_
      refine n_cond _ rfl (fun hb => ?_) (fun hb => ?_)
      · have hb' : befR r e = true := hb
        simp only [hb', cond_true] at hst
        refine nK ?_
        refine s_reg rfl ?_
        refine Run.pure (dd := some 32) rfl rfl (op_move rfl (Opd.tmp _ _ rfl)) ?_
        refine Run.pure (dd := some 33) rfl rfl (op_add rfl (Opd.tmp _ _ rfl) (Opd.const _) tI) ?_
        refine Run.pure (dd := some 9) rfl rfl (op_assign rfl (Opd.tmp _ _ rfl)) ?_
        refine Run.nil (FinR.mk ?_)
        refine nK ?_
        refine Next.weakS [4] [] (by rfl) (by first | exact keeps0 hC _ | exact keepsN hC _ rfl) (by repeat (first | exact trivial | refine ⟨⟨_, rfl, .inl ⟨rfl, rfl⟩⟩, ?_⟩ | refine ⟨⟨_, rfl, .inl ⟨slEq rfl tN, rfl⟩⟩, ?_⟩ | refine ⟨⟨_, rfl, .inl ⟨ivEq tX, rfl⟩⟩, ?_⟩)) (by repeat (first | exact trivial | refine ⟨ent_same rfl rfl rfl tL, ?_⟩ | refine ⟨ent_same rfl rfl (rfEq rfl tU) tL, ?_⟩ | refine ⟨ent_same rfl rfl (flEq rfl (by first | (simp; done) | (simp; omega) | (simp [encHo, encRt, encP]; done) | simp [maxC, minC])) trivial, ?_⟩)) rfl ((hKl hst.symm))
      · have hb' : befR r e = false := hb
        simp only [hb', cond_false] at hst
        refine nK ?_
        refine s_reg rfl ?_
        refine Run.pure (dd := some 34) rfl rfl (op_move rfl (Opd.tmp _ _ rfl)) ?_
        refine Run.pure (dd := some 10) rfl rfl (op_assign rfl (Opd.tmp _ _ rfl)) ?_
        refine Run.nil (FinR.mk ?_)
        refine nK ?_
        refine Next.weakS [4] [] (by rfl) (by first | exact keeps0 hC _ | exact keepsN hC _ rfl) (by repeat (first | exact trivial | refine ⟨⟨_, rfl, .inl ⟨rfl, rfl⟩⟩, ?_⟩ | refine ⟨⟨_, rfl, .inl ⟨slEq rfl tN, rfl⟩⟩, ?_⟩ | refine ⟨⟨_, rfl, .inl ⟨ivEq tX, rfl⟩⟩, ?_⟩)) (by repeat (first | exact trivial | refine ⟨ent_same rfl rfl rfl tL, ?_⟩ | refine ⟨ent_same rfl rfl (rfEq rfl tU) tL, ?_⟩ | refine ⟨ent_same rfl rfl (flEq rfl (by first | (simp; done) | (simp; omega) | (simp [encHo, encRt, encP]; done) | simp [maxC, minC])) trivial, ?_⟩)) rfl ((hKr hst.symm))
    · have hie : i = j := by simp at hb; omega
      rw [hie, bsGo_end] at ho
      unfold bsHitR bsR
      rw [← ho]
      rw [hie] at hi ⊢
      obtain ⟨q, hq, hh⟩ := hitAt_eq l j (fun e => decide (cmpRt e r = 0))
      rw [hh]
      have hr : j < l.length → (l.map encRt)[j]? = some (encRt q) := fun h => by rw [List.getElem?_map, hq h]; rfl
      refine nK ?_
      refine s_draw mixed ?_
      refine Run.pure (dd := some 35) rfl rfl (op_move rfl (Opd.tmp _ _ rfl)) ?_
      refine Run.pure (dd := some 36) rfl rfl (op_move rfl (Opd.tmp _ _ rfl)) ?_
      refine Run.pure (dd := some 37) rfl rfl (op_move rfl (Opd.tmp _ _ rfl)) ?_
      refine Run.pure (dd := some 38) rfl rfl (op_lss rfl (Opd.tmp _ _ rfl) (Opd.tmp _ _ rfl)) ?_
      refine Run.pure (dd := some 39) rfl rfl (op_move rfl (Opd.tmp _ _ rfl)) ?_
      refine Run.pureG (dd := some 40) rfl rfl rfl tG (op_move rfl (Opd.tmp _ _ rfl)) ?_
      refine Run.pureG (dd := some 41) rfl rfl rfl tG (op_move rfl (Opd.tmp _ _ rfl)) ?_
      refine Run.pureG (dd := some 42) rfl rfl rfl tG (op_move rfl (Opd.tmp _ _ rfl)) ?_
      refine Run.pureG (dd := some 43) rfl rfl rfl tG (op_idx_fz j rfl (Opd.topt _ _ _ rfl tO) (Opd.topt _ _ _ rfl tO) (by intro hg; exact ⟨rfl, hr (by simp at hg; omega)⟩)) ?_
      refine Run.pureG (dd := some 44) rfl rfl rfl tG (op_loadw_fz rfl (Opd.topt _ _ _ rfl tO) rfl) ?_
      refine Run.loadG (dd := some 45) rfl rfl rfl tG (op_loadw_flat rfl (Opd.tmp _ _ rfl) tH rfl) ?_
      refine Run.pureG (dd := some 46) rfl rfl rfl tG (op_call_pureC (fun _ => crt_c2 q r) rfl (Opd.topt _ _ _ rfl tO) (Opds.cons _ _ _ _ (Opd.topt _ _ _ rfl tO) (Opds.cons _ _ _ _ (Opd.topt _ _ _ rfl tO) Opds.nil))) ?_
      refine Run.pureG (dd := some 47) rfl rfl rfl tG (op_eql rfl (Opd.topt _ _ _ rfl tO) (Opd.const _)) ?_
      refine Run.pure (dd := some 48) rfl rfl (op_pick_and rfl (Opd.tmp _ _ rfl) (Opd.topt _ _ _ rfl tO)) ?_
      refine Run.pure (dd := some 6) rfl rfl (op_assign rfl (Opd.tmp _ _ rfl)) ?_
      refine Run.pure (dd := some 7) rfl rfl (op_assign rfl (Opd.tmp _ _ rfl)) ?_
      refine Run.nil (FinD.mk (by kernel_rfl) ?_)
      refine nK ?_
      (first | exact s_o1 hC rfl tV | exact s_o2 hC rfl tV tV | exact s_o3 hC rfl tV tV tV | exact s_o4 hC rfl tV tV tV tV | exact s_out0 hC rfl | exact s_outO hC rfl rfl rfl)
open Go Go.RT Go.Proofs Go.Pl
set_option maxRecDepth 20000
abbrev cmpFn : FuncId := 30
theorem insert_c (l : List Rte) (r : Rte) (hn : l.length ≤ 4000) (ha : l.Pairwise ltRt) (hr : r.hs.length ≤ 64) : Meets Try.prog 38 [.sl 0 7 0 l.length, .fz (.agg (encRt r))] 1 [(0, ORts l)] (.sl 1 7 0 (l.length + 1)) [(1, ORts (insRt r l))] 2 := by
  have kb := bsrt_c l r (by omega)
  have kcl := clonert_c r (by omega)
  obtain ⟨hbs, hle⟩ := bs_ins (r := r) ha
  have hi := insRts_c l r (bsR r l) (by omega) hle
  rw [hbs]
  generalize bsHitR r l = hit at *
  change bsR r l ≤ l.length at hle
  show Meets _ _ _ _ _ _ [(1, ORts (insL l (bsR r l) r))] _
  generalize bsR r l = k at *
  refine Meets.intro Try.func38 rfl (Nat.le_of_ble_eq_true rfl) fun C hC => ?_
  simp only [List.map, argEnv, Nat.reduceAdd]
  refine nK ?_
  refine s_reg rfl ?_
  refine Run.eff (dd := some 3) rfl rfl (op_box_flat rfl (Opd.tmp _ _ rfl) tC rfl) ?_
  refine Run.pure (dd := some 4) rfl rfl (op_assign rfl (Opd.const _)) ?_
  refine Run.nil (FinR.mk ?_)
  refine nK ?_
  refine s_reg rfl ?_
  refine Run.pure (dd := some 8) rfl rfl (op_move rfl (Opd.tmp _ _ rfl)) ?_
  refine Run.load (dd := some 9) rfl rfl (op_loadw_flat rfl (Opd.tmp _ _ rfl) tH rfl) ?_
  refine Run.load (dd := some 10) rfl rfl (op_call_lend (args := [VRt l, .agg (encRt r), .clo cmpFn []]) [0] (fun _ => kb) rfl (Opd.func _) (Opds.cons _ _ _ _ (Opd.tmp _ _ rfl) (Opds.cons _ _ _ _ (Opd.tmp _ _ rfl) (Opds.cons _ _ _ _ (Opd.func _) Opds.nil))) (by exact .cons _ _ _ _ tW (.cons _ _ _ _ tW (.cons _ _ _ _ tW .nil))) rfl rfl) ?_
  refine Run.pure (dd := some 7) rfl rfl (op_move rfl (Opd.tmp _ _ rfl)) ?_
  refine Run.pure (dd := some 11) rfl rfl (op_extract_fz rfl (Opd.tmp _ _ rfl) rfl) ?_
  refine Run.pure (dd := some 12) rfl rfl (op_extract_fz rfl (Opd.tmp _ _ rfl) rfl) ?_
  refine Run.pure (dd := some 5) rfl rfl (op_assign rfl (Opd.tmp _ _ rfl)) ?_
  refine Run.pure (dd := some 6) rfl rfl (op_assign rfl (Opd.tmp _ _ rfl)) ?_
  refine Run.nil (FinR.mk ?_)
  refine nK ?_
  refine s_reg rfl ?_
  refine Run.pure (dd := some 13) rfl rfl (op_move rfl (Opd.tmp _ _ rfl)) ?_
  refine Run.pure (dd := some 14) rfl rfl (op_move rfl (Opd.tmp _ _ rfl)) ?_
  refine Run.load (dd := some 15) rfl rfl (op_loadw_flat rfl (Opd.tmp _ _ rfl) tH rfl) ?_
  refine Run.pure (dd := some 16) rfl rfl (op_call_pure (fun _ => kcl) rfl (Opd.func _) (Opds.cons _ _ _ _ (Opd.tmp _ _ rfl) Opds.nil)) ?_
  refine Run.eff (dd := some 17) rfl rfl (op_buildSlice_own rfl (RowsF.cons _ _ _ _ _ _ (Opd.tmp _ _ rfl) tC (by rfl) (RowsF.nil _)) rfl rfl rfl) ?_
  refine Run.eff (dd := some 18) rfl rfl (op_call (n := 2) (n' := 3) [0, 2] (fun _ => hi) rfl (Opd.func _) (Opds.cons _ _ _ _ (Opd.tmp _ _ rfl) (Opds.cons _ _ _ _ (Opd.tmp _ _ rfl) (Opds.cons _ _ _ _ (Opd.tmp _ _ rfl) Opds.nil))) rfl rfl (Lent.of rfl rfl (by repeat (first | exact trivial | refine ⟨⟨rfl, rfl, rfl, tL⟩, ?_⟩)) rfl) rfl rfl rfl rfl rfl) ?_
  refine Run.pure (dd := some 4) rfl rfl (op_assign rfl (Opd.tmp _ _ rfl)) ?_
  refine Run.nil (FinR.mk ?_)
  refine nK ?_
  refine Next.weakS [0, 4] [] (by rfl) (keepsN hC _ rfl) (G' := [(4, .sl 1 7 0 (l.length + 1))]) (H' := [(1, ORts (insL l k r))]) (by exact ⟨⟨_, rfl, .inl ⟨rfl, rfl⟩⟩, trivial⟩) (by exact ⟨ent_same rfl rfl rfl tL, trivial⟩) rfl ?_
  exact n_out1 rfl (by rfl) rfl rfl
theorem putP_c (r x : Rte) : Pure Try.prog 37 [.agg (encRt x), .cellp (encRt r)] (Bf (decide (x.pf = r.pf) && decide (x.pr = r.pr))) := by
  rw [← eqFs_encP]
  refine Meets.intro Try.func37 rfl (Nat.le_of_ble_eq_true rfl) fun C hC => ?_
  simp only [List.map, argEnv, Nat.reduceAdd]
  refine nK ?_
  refine s_reg rfl ?_
  refine Run.eff (dd := some 2) rfl rfl (op_box_flat rfl (Opd.tmp _ _ rfl) tC rfl) ?_
  refine Run.pure (dd := some 3) rfl rfl (op_assign rfl (Opd.const _)) ?_
  refine Run.nil (FinR.mk ?_)
  refine nK ?_
  refine s_reg rfl ?_
  refine Run.pure (dd := some 4) rfl rfl (op_fld_ptr (by decide) rfl (Opd.tmp _ _ rfl)) ?_
  refine Run.load (dd := some 5) rfl rfl (op_loadn_flat rfl (Opd.tmp _ _ rfl) tH tR tR) ?_
  refine Run.pure (dd := some 6) rfl rfl (op_fld_fz (by decide) rfl (Opd.tmp _ _ rfl) tR) ?_
  refine Run.pure (dd := some 7) rfl rfl (op_loadn_fz rfl (Opd.tmp _ _ rfl) tR) ?_
  refine Run.pure (dd := some 8) rfl rfl (op_eqS rfl (Opd.tmp _ _ rfl) (Opd.tmp _ _ rfl) (by kernel_rfl)) ?_
  refine Run.pure (dd := some 9) rfl rfl (op_move rfl (Opd.tmp _ _ rfl)) ?_
  refine Run.pureG (dd := some 10) rfl rfl rfl tG (op_fld_ptr (by decide) rfl (Opd.tmp _ _ rfl)) ?_
  refine Run.loadG (dd := some 11) rfl rfl rfl tG (op_load1_flat rfl (Opd.topt _ _ _ rfl tO) tH rfl) ?_
  refine Run.pureG (dd := some 12) rfl rfl rfl tG (op_fld_fz (by decide) rfl (Opd.tmp _ _ rfl) tR) ?_
  refine Run.pureG (dd := some 13) rfl rfl rfl tG (op_load1_fz rfl (Opd.topt _ _ _ rfl tO) rfl) ?_
  refine Run.pureG (dd := some 14) rfl rfl rfl tG (op_eql rfl (Opd.topt _ _ _ rfl tO) (Opd.topt _ _ _ rfl tO)) ?_
  refine Run.pure (dd := some 15) rfl rfl (op_pick_and rfl (Opd.tmp _ _ rfl) (Opd.topt _ _ _ rfl tO)) ?_
  refine Run.pure (dd := some 3) rfl rfl (op_assign rfl (Opd.tmp _ _ rfl)) ?_
  refine Run.nil (FinR.mk ?_)
  refine nK ?_
  (first | exact s_o1 hC rfl tV | exact s_o2 hC rfl tV tV | exact s_o3 hC rfl tV tV tV | exact s_o4 hC rfl tV tV tV tV | exact s_out0 hC rfl | exact s_outO hC rfl rfl rfl)
theorem put_c (l : List Rte) (r : Rte) (ho : ∀ x ∈ l, okRt x) (hh : ∀ x ∈ l, lenOk x.hs.length) (hn : l.length ≤ 4000) (hr : okRt r) (hrl : lenOk r.hs.length) : Pure Try.prog 18 [VRt l, .agg (encRt r)] (.tup [VRt (putRt l r).1, If .i64 (putRt l r).2]) := by
  have kc := ckl_c l ho hh (by unfold lenOk; omega)
  have kr := ckrt_c r hr hrl
  have kor := or_c [checkL l, checkRt r] (by simp)
  have hor : orI [checkL l, checkRt r] = if checkL l ≠ 0 then checkL l else if checkRt r ≠ 0 then checkRt r else 0 := rfl
  rw [hor] at kor
  have hput : putRt l r = if checkL l ≠ 0 then ([], checkL l) else if checkRt r ≠ 0 then ([], checkRt r) else if 2000 ≤ (l.filter fun x => !(decide (x.pf = r.pf) && decide (x.pr = r.pr))).length then ([], 4) else (insRt r (l.filter fun x => !(decide (x.pf = r.pf) && decide (x.pr = r.pr))), 0) := rfl
  by_cases h1 : checkL l = 0
  · by_cases h2 : checkRt r = 0
    · have hlen := tab_len h1
      have hT := (check_iff l).1 h1
      have hw := without_f l hn hlen 37 [.cellp (encRt r)] (fun x => decide (x.pf = r.pf) && decide (x.pr = r.pr)) (putP_c r)
      have hfl : (l.filter fun x => !(decide (x.pf = r.pf) && decide (x.pr = r.pr))).length ≤ l.length := List.length_filter_le _ _
      have hins := insert_c (l.filter fun x => !(decide (x.pf = r.pf) && decide (x.pr = r.pr))) r (by omega) (hT.asc.filter _) (ckrt_len h2)
      rw [← ins_len r] at hins
      rw [if_neg (by simp [h1]), if_neg (by simp [h2])] at hput
      rw [if_neg (by simp [h1]), if_neg (by simp [h2])] at kor
      rw [hput]
      generalize (l.filter fun x => !(decide (x.pf = r.pf) && decide (x.pr = r.pr))) = out at *
      refine Meets.intro Try.func18 rfl (Nat.le_of_ble_eq_true rfl) fun C hC => ?_
      simp only [List.map, argEnv, Nat.reduceAdd]
      refine nK ?_
      refine s_reg rfl ?_
      refine Run.eff (dd := some 3) rfl rfl (op_box_flat rfl (Opd.tmp _ _ rfl) tC rfl) ?_
      refine Run.pure (dd := some 4) rfl rfl (op_assign rfl (Opd.const _)) ?_
      refine Run.pure (dd := some 5) rfl rfl (op_assign rfl (Opd.const _)) ?_
      refine Run.nil (FinR.mk ?_)
      refine nK ?_
      refine s_draw mixed ?_
      refine Run.pure (dd := some 8) rfl rfl (op_move rfl (Opd.tmp _ _ rfl)) ?_
      refine Run.pure (dd := some 9) rfl rfl (op_call_pure (fun _ => kc) rfl (Opd.func _) (Opds.cons _ _ _ _ (Opd.tmp _ _ rfl) Opds.nil)) ?_
      refine Run.load (dd := some 10) rfl rfl (op_loadw_flat rfl (Opd.tmp _ _ rfl) tH rfl) ?_
      refine Run.pure (dd := some 11) rfl rfl (op_call_pure (fun _ => kr) rfl (Opd.func _) (Opds.cons _ _ _ _ (Opd.tmp _ _ rfl) Opds.nil)) ?_
      refine Run.pure (dd := some 12) rfl rfl (op_buildSlice_fz rfl (RowsF.cons _ _ _ _ _ _ (Opd.tmp _ _ rfl) tC (by rfl) (RowsF.cons _ _ _ _ _ _ (Opd.tmp _ _ rfl) tC (by rfl) (RowsF.nil _))) rfl rfl) ?_
      refine Run.pure (dd := some 13) rfl rfl (op_call_pure (fun _ => kor) rfl (Opd.func _) (Opds.cons _ _ _ _ (Opd.tmp _ _ rfl) Opds.nil)) ?_
      refine Run.pure (dd := some 6) rfl rfl (op_assign rfl (Opd.tmp _ _ rfl)) ?_
      refine Run.nil (FinD.mk (by kernel_rfl) ?_)
      refine nK ?_
      refine s_reg rfl ?_
      refine Run.pure (dd := some 14) rfl rfl (op_move rfl (Opd.tmp _ _ rfl)) ?_
      refine Run.pure (dd := some 15) rfl rfl (op_neq rfl (Opd.tmp _ _ rfl) (Opd.const _)) ?_
      refine Run.nil (FinR.mk ?_)
      refine nK ?_
      refine n_cond _ rfl (fun hb => ?_) (fun hb => ?_)
      · exfalso; simp at hb
      · refine nK ?_
        refine Next.weakS [] [3] (by rfl) (keeps0 hC _) (G' := [(0, .fz (VRt l)), (3, .fz (.cellp (encRt r)))]) (H' := []) (by repeat (first | exact trivial | refine ⟨⟨_, rfl, .inl ⟨rfl, rfl⟩⟩, ?_⟩ | refine ⟨⟨_, rfl, .inl ⟨slEq rfl tN, rfl⟩⟩, ?_⟩ | refine ⟨⟨_, rfl, .inl ⟨ivEq tX, rfl⟩⟩, ?_⟩ | refine ⟨⟨_, rfl, .inr ⟨_, rfl, tW⟩⟩, ?_⟩)) trivial rfl ?_
        refine nK ?_
        refine s_reg rfl ?_
        refine Run.pure (dd := some 17) rfl rfl (op_move rfl (Opd.tmp _ _ rfl)) ?_
        refine Run.pure (dd := some 18) rfl rfl (op_makeFuncF (fs := [.cellp (encRt r)]) rfl (Opds.cons _ _ _ _ (Opd.tmp _ _ rfl) Opds.nil)) ?_
        refine Run.eff (dd := some 19) rfl rfl (op_call_fresh (fun _ => hw) rfl (Opd.func _) (Opds.cons _ _ _ _ (Opd.tmp _ _ rfl) (Opds.cons _ _ _ _ (Opd.tmp _ _ rfl) Opds.nil))) ?_
        refine Run.pure (dd := some 7) rfl rfl (op_assign rfl (Opd.tmp _ _ rfl)) ?_
        refine Run.nil (FinR.mk ?_)
        refine nK ?_
        refine s_reg rfl ?_
        refine Run.pure (dd := some 20) rfl rfl (op_move rfl (Opd.tmp _ _ rfl)) ?_
        refine Run.pure (dd := some 21) rfl rfl (op_len_sl rfl (Opd.tmp _ _ rfl)) ?_
        refine Run.pure (dd := some 22) rfl rfl (op_geq rfl (Opd.tmp _ _ rfl) (Opd.const _)) ?_
        refine Run.nil (FinR.mk ?_)
        refine nK ?_
        refine n_cond _ rfl (fun hb => ?_) (fun hb => ?_)
        · rw [if_pos (by simp at hb; omega)]
          refine nK ?_
          refine s_reg rfl ?_
          refine Run.pure (dd := some 4) rfl rfl (op_assign rfl (Opd.const _)) ?_
          refine Run.pure (dd := some 5) rfl rfl (op_assign rfl (Opd.const _)) ?_
          refine Run.nil (FinR.mk ?_)
          refine nK ?_
          refine Next.weakS [] [] (by rfl) (keeps0 hC _) (G' := [(4, .fz (VRt [])), (5, IV .i64 4)]) (H' := []) (by repeat (first | exact trivial | refine ⟨⟨_, rfl, .inl ⟨rfl, rfl⟩⟩, ?_⟩ | refine ⟨⟨_, rfl, .inl ⟨slEq rfl tN, rfl⟩⟩, ?_⟩ | refine ⟨⟨_, rfl, .inl ⟨ivEq tX, rfl⟩⟩, ?_⟩ | refine ⟨⟨_, rfl, .inr ⟨_, rfl, tW⟩⟩, ?_⟩)) trivial rfl ?_
          (first | exact s_o1 hC rfl tV | exact s_o2 hC rfl tV tV | exact s_o3 hC rfl tV tV tV | exact s_o4 hC rfl tV tV tV tV | exact s_out0 hC rfl | exact s_outO hC rfl rfl rfl)
        · rw [if_neg (by simp at hb; omega)]
          refine nK ?_
          refine s_reg rfl ?_
          refine Run.pure (dd := some 23) rfl rfl (op_move rfl (Opd.tmp _ _ rfl)) ?_
          refine Run.pure (dd := some 24) rfl rfl (op_loadw_fz rfl (Opd.tmp _ _ rfl) rfl) ?_
          refine Run.eff (dd := some 25) rfl rfl (op_call (n := 1) (n' := 2) [0] (fun _ => hins) rfl (Opd.func _) (Opds.cons _ _ _ _ (Opd.tmp _ _ rfl) (Opds.cons _ _ _ _ (Opd.tmp _ _ rfl) Opds.nil)) rfl rfl (Lent.of rfl rfl (by repeat (first | exact trivial | refine ⟨⟨rfl, rfl, rfl, tL⟩, ?_⟩)) rfl) rfl rfl rfl rfl rfl) ?_
          refine Run.pure (dd := some 4) rfl rfl (op_assign rfl (Opd.tmp _ _ rfl)) ?_
          refine Run.pure (dd := some 5) rfl rfl (op_assign rfl (Opd.const _)) ?_
          refine Run.nil (FinR.mk ?_)
          refine nK ?_
          refine Next.weakS [] [4] (by rfl) (keeps0 hC _) (G' := [(4, .fz (VRt (insRt r out))), (5, IV .i64 0)]) (H' := []) (by repeat (first | exact trivial | refine ⟨⟨_, rfl, .inl ⟨rfl, rfl⟩⟩, ?_⟩ | refine ⟨⟨_, rfl, .inl ⟨slEq rfl tN, rfl⟩⟩, ?_⟩ | refine ⟨⟨_, rfl, .inl ⟨ivEq tX, rfl⟩⟩, ?_⟩ | refine ⟨⟨_, rfl, .inr ⟨_, rfl, tW⟩⟩, ?_⟩)) trivial rfl ?_
          (first | exact s_o1 hC rfl tV | exact s_o2 hC rfl tV tV | exact s_o3 hC rfl tV tV tV | exact s_o4 hC rfl tV tV tV tV | exact s_out0 hC rfl | exact s_outO hC rfl rfl rfl)
    · rw [if_neg (by simp [h1]), if_pos h2] at hput
      rw [if_neg (by simp [h1]), if_pos h2] at kor
      rw [hput]
      refine Meets.intro Try.func18 rfl (Nat.le_of_ble_eq_true rfl) fun C hC => ?_
      simp only [List.map, argEnv, Nat.reduceAdd]
      refine nK ?_
      refine s_reg rfl ?_
      refine Run.eff (dd := some 3) rfl rfl (op_box_flat rfl (Opd.tmp _ _ rfl) tC rfl) ?_
      refine Run.pure (dd := some 4) rfl rfl (op_assign rfl (Opd.const _)) ?_
      refine Run.pure (dd := some 5) rfl rfl (op_assign rfl (Opd.const _)) ?_
      refine Run.nil (FinR.mk ?_)
      refine nK ?_
      refine s_draw mixed ?_
      refine Run.pure (dd := some 8) rfl rfl (op_move rfl (Opd.tmp _ _ rfl)) ?_
      refine Run.pure (dd := some 9) rfl rfl (op_call_pure (fun _ => kc) rfl (Opd.func _) (Opds.cons _ _ _ _ (Opd.tmp _ _ rfl) Opds.nil)) ?_
      refine Run.load (dd := some 10) rfl rfl (op_loadw_flat rfl (Opd.tmp _ _ rfl) tH rfl) ?_
      refine Run.pure (dd := some 11) rfl rfl (op_call_pure (fun _ => kr) rfl (Opd.func _) (Opds.cons _ _ _ _ (Opd.tmp _ _ rfl) Opds.nil)) ?_
      refine Run.pure (dd := some 12) rfl rfl (op_buildSlice_fz rfl (RowsF.cons _ _ _ _ _ _ (Opd.tmp _ _ rfl) tC (by rfl) (RowsF.cons _ _ _ _ _ _ (Opd.tmp _ _ rfl) tC (by rfl) (RowsF.nil _))) rfl rfl) ?_
      refine Run.pure (dd := some 13) rfl rfl (op_call_pure (fun _ => kor) rfl (Opd.func _) (Opds.cons _ _ _ _ (Opd.tmp _ _ rfl) Opds.nil)) ?_
      refine Run.pure (dd := some 6) rfl rfl (op_assign rfl (Opd.tmp _ _ rfl)) ?_
      refine Run.nil (FinD.mk (by kernel_rfl) ?_)
      refine nK ?_
      refine s_reg rfl ?_
      refine Run.pure (dd := some 14) rfl rfl (op_move rfl (Opd.tmp _ _ rfl)) ?_
      refine Run.pure (dd := some 15) rfl rfl (op_neq rfl (Opd.tmp _ _ rfl) (Opd.const _)) ?_
      refine Run.nil (FinR.mk ?_)
      refine nK ?_
      refine n_cond _ rfl (fun hb => ?_) (fun hb => ?_)
      · refine nK ?_
        refine s_reg rfl ?_
        refine Run.pure (dd := some 16) rfl rfl (op_move rfl (Opd.tmp _ _ rfl)) ?_
        refine Run.pure (dd := some 4) rfl rfl (op_assign rfl (Opd.const _)) ?_
        refine Run.pure (dd := some 5) rfl rfl (op_assign rfl (Opd.tmp _ _ rfl)) ?_
        refine Run.nil (FinR.mk ?_)
        refine nK ?_
        refine Next.weakS [] [] (by rfl) (keeps0 hC _) (G' := [(4, .fz (VRt [])), (5, IV .i64 (checkRt r))]) (H' := []) (by repeat (first | exact trivial | refine ⟨⟨_, rfl, .inl ⟨rfl, rfl⟩⟩, ?_⟩ | refine ⟨⟨_, rfl, .inl ⟨slEq rfl tN, rfl⟩⟩, ?_⟩ | refine ⟨⟨_, rfl, .inl ⟨ivEq tX, rfl⟩⟩, ?_⟩ | refine ⟨⟨_, rfl, .inr ⟨_, rfl, tW⟩⟩, ?_⟩)) trivial rfl ?_
        (first | exact s_o1 hC rfl tV | exact s_o2 hC rfl tV tV | exact s_o3 hC rfl tV tV tV | exact s_o4 hC rfl tV tV tV tV | exact s_out0 hC rfl | exact s_outO hC rfl rfl rfl)
      · exfalso; simp [h2] at hb
  · rw [if_pos h1] at hput
    rw [if_pos h1] at kor
    rw [hput]
    refine Meets.intro Try.func18 rfl (Nat.le_of_ble_eq_true rfl) fun C hC => ?_
    simp only [List.map, argEnv, Nat.reduceAdd]
    refine nK ?_
    refine s_reg rfl ?_
    refine Run.eff (dd := some 3) rfl rfl (op_box_flat rfl (Opd.tmp _ _ rfl) tC rfl) ?_
    refine Run.pure (dd := some 4) rfl rfl (op_assign rfl (Opd.const _)) ?_
    refine Run.pure (dd := some 5) rfl rfl (op_assign rfl (Opd.const _)) ?_
    refine Run.nil (FinR.mk ?_)
    refine nK ?_
    refine s_draw mixed ?_
    refine Run.pure (dd := some 8) rfl rfl (op_move rfl (Opd.tmp _ _ rfl)) ?_
    refine Run.pure (dd := some 9) rfl rfl (op_call_pure (fun _ => kc) rfl (Opd.func _) (Opds.cons _ _ _ _ (Opd.tmp _ _ rfl) Opds.nil)) ?_
    refine Run.load (dd := some 10) rfl rfl (op_loadw_flat rfl (Opd.tmp _ _ rfl) tH rfl) ?_
    refine Run.pure (dd := some 11) rfl rfl (op_call_pure (fun _ => kr) rfl (Opd.func _) (Opds.cons _ _ _ _ (Opd.tmp _ _ rfl) Opds.nil)) ?_
    refine Run.pure (dd := some 12) rfl rfl (op_buildSlice_fz rfl (RowsF.cons _ _ _ _ _ _ (Opd.tmp _ _ rfl) tC (by rfl) (RowsF.cons _ _ _ _ _ _ (Opd.tmp _ _ rfl) tC (by rfl) (RowsF.nil _))) rfl rfl) ?_
    refine Run.pure (dd := some 13) rfl rfl (op_call_pure (fun _ => kor) rfl (Opd.func _) (Opds.cons _ _ _ _ (Opd.tmp _ _ rfl) Opds.nil)) ?_
    refine Run.pure (dd := some 6) rfl rfl (op_assign rfl (Opd.tmp _ _ rfl)) ?_
    refine Run.nil (FinD.mk (by kernel_rfl) ?_)
    refine nK ?_
    refine s_reg rfl ?_
    refine Run.pure (dd := some 14) rfl rfl (op_move rfl (Opd.tmp _ _ rfl)) ?_
    refine Run.pure (dd := some 15) rfl rfl (op_neq rfl (Opd.tmp _ _ rfl) (Opd.const _)) ?_
    refine Run.nil (FinR.mk ?_)
    refine nK ?_
    refine n_cond _ rfl (fun hb => ?_) (fun hb => ?_)
    · refine nK ?_
      refine s_reg rfl ?_
      refine Run.pure (dd := some 16) rfl rfl (op_move rfl (Opd.tmp _ _ rfl)) ?_
      refine Run.pure (dd := some 4) rfl rfl (op_assign rfl (Opd.const _)) ?_
      refine Run.pure (dd := some 5) rfl rfl (op_assign rfl (Opd.tmp _ _ rfl)) ?_
      refine Run.nil (FinR.mk ?_)
      refine nK ?_
      refine Next.weakS [] [] (by rfl) (keeps0 hC _) (G' := [(4, .fz (VRt [])), (5, IV .i64 (checkL l))]) (H' := []) (by repeat (first | exact trivial | refine ⟨⟨_, rfl, .inl ⟨rfl, rfl⟩⟩, ?_⟩ | refine ⟨⟨_, rfl, .inl ⟨slEq rfl tN, rfl⟩⟩, ?_⟩ | refine ⟨⟨_, rfl, .inl ⟨ivEq tX, rfl⟩⟩, ?_⟩ | refine ⟨⟨_, rfl, .inr ⟨_, rfl, tW⟩⟩, ?_⟩)) trivial rfl ?_
      (first | exact s_o1 hC rfl tV | exact s_o2 hC rfl tV tV | exact s_o3 hC rfl tV tV tV | exact s_o4 hC rfl tV tV tV tV | exact s_out0 hC rfl | exact s_outO hC rfl rfl rfl)
    · exfalso; simp [h1] at hb
end Go.Proofs.Ytinddhlmgiahiaa
/- The reference's insertion, step by step. No program in sight. -/
namespace Go.Pl
open Go Go.RT
set_option linter.all false
def insD (r : Rte) (d : Bool) (t : List Rte) : List Rte := if d = true then t else insRt r t
theorem insD_in (r x : Rte) (t : List Rte) (h : befR r x = false) : insD r false (x :: t) = r :: x :: insD r true t := by
  simp [insD, insRt, List.takeWhile_cons, List.dropWhile_cons, h]
theorem insD_past (r x : Rte) (t : List Rte) (h : befR r x = true) : insD r false (x :: t) = x :: insD r false t := by
  simp [insD, insRt, List.takeWhile_cons, List.dropWhile_cons, h]
theorem insD_done (r x : Rte) (t : List Rte) : insD r true (x :: t) = x :: insD r true t := by simp [insD]
theorem insD_nil (r : Rte) : insD r false [] = [r] := by simp [insD, insRt]
end Go.Pl
namespace Go.Proofs.Ytinddhlmgiahiaa
open Go Go.RT Go.Proofs Go.Pl
set_option linter.all false
set_option maxRecDepth 20000
theorem rinsert_f (l : List Rte) (r : Rte) (hn : l.length ≤ 4000) : Meets Try.prog 39 ([VRt l, .agg (encRt r)].map PV.fz) 0 [] (.sl 0 7 0 (insRt r l).length) [(0, ORts (insRt r l))] 1 := by
  have app1 : ∀ (o : List Rte) (x : Rte), (o ++ [x]).length = o.length + 1 := fun o x => by simp
  have app2 : ∀ (o : List Rte) (x : Rte), (o ++ [x]).map encRt = o.map encRt ++ [encRt x] := fun o x => by simp
  refine Meets.intro Try.func39 rfl (Nat.le_of_ble_eq_true rfl) fun C hC => ?_
  simp only [List.map, argEnv, Nat.reduceAdd]
  refine nK ?_
  refine s_reg rfl ?_
  refine Run.eff (dd := some 3) rfl rfl (op_box_flat rfl (Opd.tmp _ _ rfl) tC rfl) ?_
  refine Run.pure (dd := some 4) rfl rfl (op_assign rfl (Opd.const _)) ?_
  refine Run.nil (FinR.mk ?_)
  refine nK ?_
  refine s_reg rfl ?_
  refine Run.pure (dd := some 5) rfl rfl (op_assign rfl (Opd.const _)) ?_
  refine Run.nil (FinR.mk ?_)
  refine nK ?_
  refine Next.adopt 5 7 rfl ?_
  refine nK ?_
  refine s_reg rfl ?_
  refine Run.pure (dd := some 6) rfl rfl (op_assign rfl (Opd.const _)) ?_
  refine Run.nil (FinR.mk ?_)
  refine nK ?_
  refine s_reg rfl ?_
  refine Run.pure (dd := some 9) rfl rfl (op_move rfl (Opd.tmp _ _ rfl)) ?_
  refine Run.pure (dd := some 10) rfl rfl (op_len_fz rfl (by first | exact Opd.tmp _ _ rfl | exact Opd.nil _ _ (Opd.tmp _ _ rfl)) (by first | exact List.length_map _ | rfl)) ?_
  refine Run.pure (dd := some 11) rfl rfl (op_move rfl (Opd.const _)) ?_
  refine Run.nil (FinR.mk ?_)
  refine nK ?_
  refine n_loop (ι := Nat × List Rte × Bool) (fun g => ([(3, .ptr 0 7 0 0), (5, .sl 1 7 0 g.2.1.length), (6, BV g.2.2), (9, .fz (VRt l)), (10, IV .i64 l.length), (11, IV .i64 g.1)], [(0, ORt r), (1, ORts g.2.1)], 2)) (fun g => g.1 ≤ l.length ∧ g.2.1.length + (if g.2.2 = true then 0 else 1) ≤ g.1 + 1 ∧ g.2.1 ++ insD r g.2.2 (l.drop g.1) = insRt r l) (fun g => l.length - g.1) (0, [], false) ⟨Nat.zero_le _, by simp, by simp [insD]⟩ ?_ ?_
  · refine Next.weakS [3, 5] [] (by rfl) (by first | exact keeps0 hC _ | exact keepsN hC _ rfl) (by repeat (first | exact trivial | refine ⟨⟨_, rfl, .inl ⟨rfl, rfl⟩⟩, ?_⟩ | refine ⟨⟨_, rfl, .inl ⟨slEq rfl tN, rfl⟩⟩, ?_⟩ | refine ⟨⟨_, rfl, .inl ⟨ivEq tX, rfl⟩⟩, ?_⟩)) (by repeat (first | exact trivial | refine ⟨ent_same rfl rfl rfl tL, ?_⟩ | refine ⟨ent_same rfl rfl (rfEq rfl tU) tL, ?_⟩ | refine ⟨ent_same rfl rfl (flEq rfl (by first | (simp; done) | (simp; omega) | (simp [encHo, encRt, encP]; done) | simp [maxC, minC])) trivial, ?_⟩)) rfl (rel_intro)
  · intro ⟨i, out, d⟩ ⟨hi, hol, hS⟩ K hK
    dsimp only at hi hol hS ⊢
    refine nK ?_
    refine s_reg rfl ?_
    refine Run.pure (dd := some 12) rfl rfl (op_lss rfl (Opd.tmp _ _ rfl) (Opd.tmp _ _ rfl)) ?_
    refine Run.nil (FinR.mk ?_)
    refine nK ?_
    refine n_cond _ rfl (fun hb => ?_) (fun hb => ?_)
    · have hlt : i < l.length := by simp at hb; omega
      have hr1 := row_at' encRt l i hlt
      rw [List.drop_eq_getElem_cons hlt] at hS
      have hK1 := fun o d h1 h => hK (i + 1, o, d) ⟨by dsimp only; omega, h1, h⟩ (by dsimp only; omega)
      dsimp only at hK1
      generalize l[i] = x at *
      rcases hd : d with _ | _
      · subst hd
        simp only [Bool.false_eq_true, if_false] at hol
        by_cases hbx : befR r x = true
        · have kb : Pure Try.prog 33 [.agg (encRt x), .agg (encRt r)] (Bf true) := by
            have := before_c x r
            rwa [show decide (cmpRt x r < 0) = true from hbx] at this
          rw [insD_past r x _ hbx] at hS
          have hK2 := hK1 (out ++ [x]) false (by simp; omega) (by simpa using hS)
          unfold ORts at hK2
          rw [app1, app2] at hK2
          refine nK ?_
          refine s_reg rfl ?_
          refine Run.pure (dd := some 13) rfl rfl (op_idx_fz _ rfl (Opd.tmp _ _ rfl) (Opd.tmp _ _ rfl) tF) ?_
          refine Run.pure (dd := some 14) rfl rfl (op_loadw_fz rfl (Opd.tmp _ _ rfl) rfl) ?_
          refine Run.eff (dd := some 8) rfl rfl (op_alloc rfl rfl rfl rfl) ?_
          refine Run.eff (dd := none) rfl rfl (op_store_flat rfl (Opd.tmp _ _ rfl) (Opd.tmp _ _ rfl) tC rfl rfl (by first | rfl | assumption) tS) ?_
          refine Run.nil (FinR.mk ?_)
          refine nK ?_
          refine s_reg rfl ?_
          refine Run.pure (dd := some 15) rfl rfl (op_move rfl (Opd.tmp _ _ rfl)) ?_
          refine Run.pure (dd := some 16) rfl rfl (op_not rfl (Opd.tmp _ _ rfl)) ?_
          refine Run.pure (dd := some 17) rfl rfl (op_move rfl (Opd.tmp _ _ rfl)) ?_
          refine Run.loadG (dd := some 18) rfl rfl rfl tG (op_loadw_flat rfl (Opd.tmp _ _ rfl) tH rfl) ?_
          refine Run.loadG (dd := some 19) rfl rfl rfl tG (op_loadw_flat rfl (Opd.tmp _ _ rfl) tH rfl) ?_
          refine Run.pureG (dd := some 20) rfl rfl rfl tG (op_call_pure (fun _ => kb) rfl (Opd.func _) (Opds.cons _ _ _ _ (Opd.topt _ _ _ rfl tO) (Opds.cons _ _ _ _ (Opd.topt _ _ _ rfl tO) Opds.nil))) ?_
          refine Run.pureG (dd := some 21) rfl rfl rfl tG (op_not rfl (Opd.topt _ _ _ rfl tO)) ?_
          refine Run.pure (dd := some 22) rfl rfl (op_pick_and rfl (Opd.tmp _ _ rfl) (Opd.topt _ _ _ rfl tO)) ?_
          refine Run.nil (FinR.mk ?_)
          refine nK ?_
          refine n_cond _ rfl (fun hb => ?_) (fun hb => ?_)
          · exfalso; simp at hb
          · refine nK ?_
            refine s_reg rfl ?_
            refine Run.pure (dd := some 27) rfl rfl (op_move rfl (Opd.tmp _ _ rfl)) ?_
            refine Run.load (dd := some 28) rfl rfl (op_loadw_flat rfl (Opd.tmp _ _ rfl) tH rfl) ?_
            refine Run.pure (dd := some 29) rfl rfl (op_buildSlice_fz rfl (RowsF.cons _ _ _ _ _ _ (Opd.tmp _ _ rfl) tC (by rfl) (RowsF.nil _)) rfl rfl) ?_
            refine Run.eff (dd := some 30) rfl rfl (op_append rfl (Opd.tmp _ _ rfl) (Opd.tmp _ _ rfl) rfl (by simp) rfl rfl tB tB) ?_
            refine Run.pure (dd := some 5) rfl rfl (op_assign rfl (Opd.tmp _ _ rfl)) ?_
            refine Run.nil (FinR.mk ?_)
            refine nK ?_
            refine s_reg rfl ?_
            refine Run.pure (dd := some 31) rfl rfl (op_add rfl (Opd.tmp _ _ rfl) (Opd.const _) tI) ?_
            refine Run.pure (dd := some 11) rfl rfl (op_move rfl (Opd.tmp _ _ rfl)) ?_
            refine Run.nil (FinR.mk ?_)
            refine nK ?_
            refine Next.weakS [3, 5] [] (by rfl) (by first | exact keeps0 hC _ | exact keepsN hC _ rfl) (by repeat (first | exact trivial | refine ⟨⟨_, rfl, .inl ⟨rfl, rfl⟩⟩, ?_⟩ | refine ⟨⟨_, rfl, .inl ⟨slEq rfl tN, rfl⟩⟩, ?_⟩ | refine ⟨⟨_, rfl, .inl ⟨ivEq tX, rfl⟩⟩, ?_⟩)) (by repeat (first | exact trivial | refine ⟨ent_same rfl rfl rfl tL, ?_⟩ | refine ⟨ent_same rfl rfl (rfEq rfl tU) tL, ?_⟩ | refine ⟨ent_same rfl rfl (flEq rfl (by first | (simp; done) | (simp; omega) | (simp [encHo, encRt, encP]; done) | simp [maxC, minC])) trivial, ?_⟩)) rfl (hK2)
        · have hbx : befR r x = false := by simpa using hbx
          have kb : Pure Try.prog 33 [.agg (encRt x), .agg (encRt r)] (Bf false) := by
            have := before_c x r
            rwa [show decide (cmpRt x r < 0) = false from hbx] at this
          rw [insD_in r x _ hbx] at hS
          have hK2 := hK1 (out ++ [r] ++ [x]) true (by simp; omega) (by simpa using hS)
          unfold ORts at hK2
          rw [app1, app1, app2, app2] at hK2
          refine nK ?_
          refine s_reg rfl ?_
          refine Run.pure (dd := some 13) rfl rfl (op_idx_fz _ rfl (Opd.tmp _ _ rfl) (Opd.tmp _ _ rfl) tF) ?_
          refine Run.pure (dd := some 14) rfl rfl (op_loadw_fz rfl (Opd.tmp _ _ rfl) rfl) ?_
          refine Run.eff (dd := some 8) rfl rfl (op_alloc rfl rfl rfl rfl) ?_
          refine Run.eff (dd := none) rfl rfl (op_store_flat rfl (Opd.tmp _ _ rfl) (Opd.tmp _ _ rfl) tC rfl rfl (by first | rfl | assumption) tS) ?_
          refine Run.nil (FinR.mk ?_)
          refine nK ?_
          refine s_reg rfl ?_
          refine Run.pure (dd := some 15) rfl rfl (op_move rfl (Opd.tmp _ _ rfl)) ?_
          refine Run.pure (dd := some 16) rfl rfl (op_not rfl (Opd.tmp _ _ rfl)) ?_
          refine Run.pure (dd := some 17) rfl rfl (op_move rfl (Opd.tmp _ _ rfl)) ?_
          refine Run.loadG (dd := some 18) rfl rfl rfl tG (op_loadw_flat rfl (Opd.tmp _ _ rfl) tH rfl) ?_
          refine Run.loadG (dd := some 19) rfl rfl rfl tG (op_loadw_flat rfl (Opd.tmp _ _ rfl) tH rfl) ?_
          refine Run.pureG (dd := some 20) rfl rfl rfl tG (op_call_pure (fun _ => kb) rfl (Opd.func _) (Opds.cons _ _ _ _ (Opd.topt _ _ _ rfl tO) (Opds.cons _ _ _ _ (Opd.topt _ _ _ rfl tO) Opds.nil))) ?_
          refine Run.pureG (dd := some 21) rfl rfl rfl tG (op_not rfl (Opd.topt _ _ _ rfl tO)) ?_
          refine Run.pure (dd := some 22) rfl rfl (op_pick_and rfl (Opd.tmp _ _ rfl) (Opd.topt _ _ _ rfl tO)) ?_
          refine Run.nil (FinR.mk ?_)
          refine nK ?_
          refine n_cond _ rfl (fun hb => ?_) (fun hb => ?_)
          · refine nK ?_
            refine s_reg rfl ?_
            refine Run.pure (dd := some 23) rfl rfl (op_move rfl (Opd.tmp _ _ rfl)) ?_
            refine Run.load (dd := some 24) rfl rfl (op_loadw_flat rfl (Opd.tmp _ _ rfl) tH rfl) ?_
            refine Run.pure (dd := some 25) rfl rfl (op_buildSlice_fz rfl (RowsF.cons _ _ _ _ _ _ (Opd.tmp _ _ rfl) tC (by rfl) (RowsF.nil _)) rfl rfl) ?_
            refine Run.eff (dd := some 26) rfl rfl (op_append rfl (Opd.tmp _ _ rfl) (Opd.tmp _ _ rfl) rfl (by simp) rfl rfl tB tB) ?_
            refine Run.pure (dd := some 5) rfl rfl (op_assign rfl (Opd.tmp _ _ rfl)) ?_
            refine Run.nil (FinR.mk ?_)
            refine nK ?_
            refine s_reg rfl ?_
            refine Run.pure (dd := some 6) rfl rfl (op_assign rfl (Opd.const _)) ?_
            refine Run.nil (FinR.mk ?_)
            refine nK ?_
            refine s_reg rfl ?_
            refine Run.pure (dd := some 27) rfl rfl (op_move rfl (Opd.tmp _ _ rfl)) ?_
            refine Run.load (dd := some 28) rfl rfl (op_loadw_flat rfl (Opd.tmp _ _ rfl) tH rfl) ?_
            refine Run.pure (dd := some 29) rfl rfl (op_buildSlice_fz rfl (RowsF.cons _ _ _ _ _ _ (Opd.tmp _ _ rfl) tC (by rfl) (RowsF.nil _)) rfl rfl) ?_
            refine Run.eff (dd := some 30) rfl rfl (op_append rfl (Opd.tmp _ _ rfl) (Opd.tmp _ _ rfl) rfl (by simp) rfl rfl tB tB) ?_
            refine Run.pure (dd := some 5) rfl rfl (op_assign rfl (Opd.tmp _ _ rfl)) ?_
            refine Run.nil (FinR.mk ?_)
            refine nK ?_
            refine s_reg rfl ?_
            refine Run.pure (dd := some 31) rfl rfl (op_add rfl (Opd.tmp _ _ rfl) (Opd.const _) tI) ?_
            refine Run.pure (dd := some 11) rfl rfl (op_move rfl (Opd.tmp _ _ rfl)) ?_
            refine Run.nil (FinR.mk ?_)
            refine nK ?_
            refine Next.weakS [3, 5] [] (by rfl) (by first | exact keeps0 hC _ | exact keepsN hC _ rfl) (by repeat (first | exact trivial | refine ⟨⟨_, rfl, .inl ⟨rfl, rfl⟩⟩, ?_⟩ | refine ⟨⟨_, rfl, .inl ⟨slEq rfl tN, rfl⟩⟩, ?_⟩ | refine ⟨⟨_, rfl, .inl ⟨ivEq tX, rfl⟩⟩, ?_⟩)) (by repeat (first | exact trivial | refine ⟨ent_same rfl rfl rfl tL, ?_⟩ | refine ⟨ent_same rfl rfl (rfEq rfl tU) tL, ?_⟩ | refine ⟨ent_same rfl rfl (flEq rfl (by first | (simp; done) | (simp; omega) | (simp [encHo, encRt, encP]; done) | simp [maxC, minC])) trivial, ?_⟩)) rfl (hK2)
          · exfalso; simp at hb
      · subst hd
        simp only [if_true] at hol
        rw [insD_done] at hS
        have hK2 := hK1 (out ++ [x]) true (by simp; omega) (by simpa using hS)
        unfold ORts at hK2
        rw [app1, app2] at hK2
        have kb := before_c x r
        refine nK ?_
        refine s_reg rfl ?_
        refine Run.pure (dd := some 13) rfl rfl (op_idx_fz _ rfl (Opd.tmp _ _ rfl) (Opd.tmp _ _ rfl) tF) ?_
        refine Run.pure (dd := some 14) rfl rfl (op_loadw_fz rfl (Opd.tmp _ _ rfl) rfl) ?_
        refine Run.eff (dd := some 8) rfl rfl (op_alloc rfl rfl rfl rfl) ?_
        refine Run.eff (dd := none) rfl rfl (op_store_flat rfl (Opd.tmp _ _ rfl) (Opd.tmp _ _ rfl) tC rfl rfl (by first | rfl | assumption) tS) ?_
        refine Run.nil (FinR.mk ?_)
        refine nK ?_
        refine s_reg rfl ?_
        refine Run.pure (dd := some 15) rfl rfl (op_move rfl (Opd.tmp _ _ rfl)) ?_
        refine Run.pure (dd := some 16) rfl rfl (op_not rfl (Opd.tmp _ _ rfl)) ?_
        refine Run.pure (dd := some 17) rfl rfl (op_move rfl (Opd.tmp _ _ rfl)) ?_
        refine Run.loadG (dd := some 18) rfl rfl rfl tG (op_loadw_flat rfl (Opd.tmp _ _ rfl) tH rfl) ?_
        refine Run.loadG (dd := some 19) rfl rfl rfl tG (op_loadw_flat rfl (Opd.tmp _ _ rfl) tH rfl) ?_
        refine Run.pureG (dd := some 20) rfl rfl rfl tG (op_call_pure (fun _ => kb) rfl (Opd.func _) (Opds.cons _ _ _ _ (Opd.topt _ _ _ rfl tO) (Opds.cons _ _ _ _ (Opd.topt _ _ _ rfl tO) Opds.nil))) ?_
        refine Run.pureG (dd := some 21) rfl rfl rfl tG (op_not rfl (Opd.topt _ _ _ rfl tO)) ?_
        refine Run.pure (dd := some 22) rfl rfl (op_pick_and rfl (Opd.tmp _ _ rfl) (Opd.topt _ _ _ rfl tO)) ?_
        refine Run.nil (FinR.mk ?_)
        refine nK ?_
        refine n_cond _ rfl (fun hb => ?_) (fun hb => ?_)
        · exfalso; simp at hb
        · refine nK ?_
          refine s_reg rfl ?_
          refine Run.pure (dd := some 27) rfl rfl (op_move rfl (Opd.tmp _ _ rfl)) ?_
          refine Run.load (dd := some 28) rfl rfl (op_loadw_flat rfl (Opd.tmp _ _ rfl) tH rfl) ?_
          refine Run.pure (dd := some 29) rfl rfl (op_buildSlice_fz rfl (RowsF.cons _ _ _ _ _ _ (Opd.tmp _ _ rfl) tC (by rfl) (RowsF.nil _)) rfl rfl) ?_
          refine Run.eff (dd := some 30) rfl rfl (op_append rfl (Opd.tmp _ _ rfl) (Opd.tmp _ _ rfl) rfl (by simp) rfl rfl tB tB) ?_
          refine Run.pure (dd := some 5) rfl rfl (op_assign rfl (Opd.tmp _ _ rfl)) ?_
          refine Run.nil (FinR.mk ?_)
          refine nK ?_
          refine s_reg rfl ?_
          refine Run.pure (dd := some 31) rfl rfl (op_add rfl (Opd.tmp _ _ rfl) (Opd.const _) tI) ?_
          refine Run.pure (dd := some 11) rfl rfl (op_move rfl (Opd.tmp _ _ rfl)) ?_
          refine Run.nil (FinR.mk ?_)
          refine nK ?_
          refine Next.weakS [3, 5] [] (by rfl) (by first | exact keeps0 hC _ | exact keepsN hC _ rfl) (by repeat (first | exact trivial | refine ⟨⟨_, rfl, .inl ⟨rfl, rfl⟩⟩, ?_⟩ | refine ⟨⟨_, rfl, .inl ⟨slEq rfl tN, rfl⟩⟩, ?_⟩ | refine ⟨⟨_, rfl, .inl ⟨ivEq tX, rfl⟩⟩, ?_⟩)) (by repeat (first | exact trivial | refine ⟨ent_same rfl rfl rfl tL, ?_⟩ | refine ⟨ent_same rfl rfl (rfEq rfl tU) tL, ?_⟩ | refine ⟨ent_same rfl rfl (flEq rfl (by first | (simp; done) | (simp; omega) | (simp [encHo, encRt, encP]; done) | simp [maxC, minC])) trivial, ?_⟩)) rfl (hK2)
    · have hie : i = l.length := by simp at hb; omega
      rw [hie, List.drop_length] at hS
      rcases hd : d with _ | _
      · subst hd
        rw [insD_nil] at hS
        rw [← hS, app1, show ORts (out ++ [r]) = some (.flat 7 (out.map encRt ++ [encRt r])) by simp]
        refine nK ?_
        refine s_reg rfl ?_
        refine Run.pure (dd := some 32) rfl rfl (op_move rfl (Opd.tmp _ _ rfl)) ?_
        refine Run.pure (dd := some 33) rfl rfl (op_not rfl (Opd.tmp _ _ rfl)) ?_
        refine Run.nil (FinR.mk ?_)
        refine nK ?_
        refine n_cond _ rfl (fun hb => ?_) (fun hb => ?_)
        · refine nK ?_
          refine s_reg rfl ?_
          refine Run.pure (dd := some 34) rfl rfl (op_move rfl (Opd.tmp _ _ rfl)) ?_
          refine Run.load (dd := some 35) rfl rfl (op_loadw_flat rfl (Opd.tmp _ _ rfl) tH rfl) ?_
          refine Run.pure (dd := some 36) rfl rfl (op_buildSlice_fz rfl (RowsF.cons _ _ _ _ _ _ (Opd.tmp _ _ rfl) tC (by rfl) (RowsF.nil _)) rfl rfl) ?_
          refine Run.eff (dd := some 37) rfl rfl (op_append rfl (Opd.tmp _ _ rfl) (Opd.tmp _ _ rfl) rfl (by simp) rfl rfl tB tB) ?_
          refine Run.pure (dd := some 5) rfl rfl (op_assign rfl (Opd.tmp _ _ rfl)) ?_
          refine Run.nil (FinR.mk ?_)
          refine nK ?_
          refine s_reg rfl ?_
          refine Run.pure (dd := some 38) rfl rfl (op_move rfl (Opd.tmp _ _ rfl)) ?_
          refine Run.pure (dd := some 4) rfl rfl (op_assign rfl (Opd.tmp _ _ rfl)) ?_
          refine Run.nil (FinR.mk ?_)
          refine nK ?_
          (first | exact s_o1 hC rfl tV | exact s_o2 hC rfl tV tV | exact s_o3 hC rfl tV tV tV | exact s_o4 hC rfl tV tV tV tV | exact s_out0 hC rfl | exact s_outO hC rfl rfl rfl)
        · exfalso; simp at hb
      · subst hd
        simp only [insD, if_true, List.append_nil] at hS
        subst hS
        refine nK ?_
        refine s_reg rfl ?_
        refine Run.pure (dd := some 32) rfl rfl (op_move rfl (Opd.tmp _ _ rfl)) ?_
        refine Run.pure (dd := some 33) rfl rfl (op_not rfl (Opd.tmp _ _ rfl)) ?_
        refine Run.nil (FinR.mk ?_)
        refine nK ?_
        refine n_cond _ rfl (fun hb => ?_) (fun hb => ?_)
        · exfalso; simp at hb
        · refine nK ?_
          refine s_reg rfl ?_
          refine Run.pure (dd := some 38) rfl rfl (op_move rfl (Opd.tmp _ _ rfl)) ?_
          refine Run.pure (dd := some 4) rfl rfl (op_assign rfl (Opd.tmp _ _ rfl)) ?_
          refine Run.nil (FinR.mk ?_)
          refine nK ?_
          (first | exact s_o1 hC rfl tV | exact s_o2 hC rfl tV tV | exact s_o3 hC rfl tV tV tV | exact s_o4 hC rfl tV tV tV tV | exact s_out0 hC rfl | exact s_outO hC rfl rfl rfl)
open Go Go.RT Go.Proofs Go.Pl
set_option maxRecDepth 20000
theorem rput_c (l : List Rte) (r : Rte) (ho : ∀ x ∈ l, okRt x) (hh : ∀ x ∈ l, lenOk x.hs.length) (hn : l.length ≤ 4000) (hr : okRt r) (hrl : lenOk r.hs.length) : Pure Try.prog 19 [VRt l, .agg (encRt r)] (.tup [VRt (putRt l r).1, If .i64 (putRt l r).2]) := by
  have app1 : ∀ (o : List Rte) (x : Rte), (o ++ [x]).length = o.length + 1 := fun o x => by simp
  have app2 : ∀ (o : List Rte) (x : Rte), (o ++ [x]).map encRt = o.map encRt ++ [encRt x] := fun o x => by simp
  have kc := rckl_c l ho hh (by unfold lenOk; omega)
  have kr := rckrt_c r hr hrl
  unfold putRt
  refine Meets.intro Try.func19 rfl (Nat.le_of_ble_eq_true rfl) fun C hC => ?_
  simp only [List.map, argEnv, Nat.reduceAdd]
  refine nK ?_
  refine s_reg rfl ?_
  refine Run.eff (dd := some 3) rfl rfl (op_box_flat rfl (Opd.tmp _ _ rfl) tC rfl) ?_
  refine Run.pure (dd := some 4) rfl rfl (op_assign rfl (Opd.const _)) ?_
  refine Run.pure (dd := some 5) rfl rfl (op_assign rfl (Opd.const _)) ?_
  refine Run.nil (FinR.mk ?_)
  refine nK ?_
  refine s_reg rfl ?_
  refine Run.pure (dd := some 11) rfl rfl (op_move rfl (Opd.tmp _ _ rfl)) ?_
  refine Run.pure (dd := some 12) rfl rfl (op_call_pure (fun _ => kc) rfl (Opd.func _) (Opds.cons _ _ _ _ (Opd.tmp _ _ rfl) Opds.nil)) ?_
  refine Run.pure (dd := some 6) rfl rfl (op_assign rfl (Opd.tmp _ _ rfl)) ?_
  refine Run.nil (FinR.mk ?_)
  refine nK ?_
  refine s_reg rfl ?_
  refine Run.pure (dd := some 13) rfl rfl (op_move rfl (Opd.tmp _ _ rfl)) ?_
  refine Run.pure (dd := some 14) rfl rfl (op_neq rfl (Opd.tmp _ _ rfl) (Opd.const _)) ?_
  refine Run.nil (FinR.mk ?_)
  refine nK ?_
  refine n_cond _ rfl (fun hb => ?_) (fun hb => ?_)
  · rw [if_pos (by simpa using hb)]
    refine nK ?_
    refine s_reg rfl ?_
    refine Run.pure (dd := some 15) rfl rfl (op_move rfl (Opd.tmp _ _ rfl)) ?_
    refine Run.pure (dd := some 4) rfl rfl (op_assign rfl (Opd.const _)) ?_
    refine Run.pure (dd := some 5) rfl rfl (op_assign rfl (Opd.tmp _ _ rfl)) ?_
    refine Run.nil (FinR.mk ?_)
    refine nK ?_
    refine Next.weakS [] [] (by rfl) (keeps0 hC _) (G' := [(4, .fz (VRt [])), (5, IV .i64 (checkL l))]) (H' := []) (by repeat (first | exact trivial | refine ⟨⟨_, rfl, .inl ⟨rfl, rfl⟩⟩, ?_⟩ | refine ⟨⟨_, rfl, .inl ⟨slEq rfl tN, rfl⟩⟩, ?_⟩ | refine ⟨⟨_, rfl, .inl ⟨ivEq tX, rfl⟩⟩, ?_⟩ | refine ⟨⟨_, rfl, .inr ⟨_, rfl, tW⟩⟩, ?_⟩)) trivial rfl ?_
    (first | exact s_o1 hC rfl tV | exact s_o2 hC rfl tV tV | exact s_o3 hC rfl tV tV tV | exact s_o4 hC rfl tV tV tV tV | exact s_out0 hC rfl | exact s_outO hC rfl rfl rfl)
  · rw [if_neg (by simpa using hb)]
    refine nK ?_
    refine s_reg rfl ?_
    refine Run.load (dd := some 16) rfl rfl (op_loadw_flat rfl (Opd.tmp _ _ rfl) tH rfl) ?_
    refine Run.pure (dd := some 17) rfl rfl (op_call_pure (fun _ => kr) rfl (Opd.func _) (Opds.cons _ _ _ _ (Opd.tmp _ _ rfl) Opds.nil)) ?_
    refine Run.pure (dd := some 7) rfl rfl (op_assign rfl (Opd.tmp _ _ rfl)) ?_
    refine Run.nil (FinR.mk ?_)
    refine nK ?_
    refine s_reg rfl ?_
    refine Run.pure (dd := some 18) rfl rfl (op_move rfl (Opd.tmp _ _ rfl)) ?_
    refine Run.pure (dd := some 19) rfl rfl (op_neq rfl (Opd.tmp _ _ rfl) (Opd.const _)) ?_
    refine Run.nil (FinR.mk ?_)
    refine nK ?_
    refine n_cond _ rfl (fun hb => ?_) (fun hb => ?_)
    · rw [if_pos (by simpa using hb)]
      refine nK ?_
      refine s_reg rfl ?_
      refine Run.pure (dd := some 20) rfl rfl (op_move rfl (Opd.tmp _ _ rfl)) ?_
      refine Run.pure (dd := some 4) rfl rfl (op_assign rfl (Opd.const _)) ?_
      refine Run.pure (dd := some 5) rfl rfl (op_assign rfl (Opd.tmp _ _ rfl)) ?_
      refine Run.nil (FinR.mk ?_)
      refine nK ?_
      refine Next.weakS [] [] (by rfl) (keeps0 hC _) (G' := [(4, .fz (VRt [])), (5, IV .i64 (checkRt r))]) (H' := []) (by repeat (first | exact trivial | refine ⟨⟨_, rfl, .inl ⟨rfl, rfl⟩⟩, ?_⟩ | refine ⟨⟨_, rfl, .inl ⟨slEq rfl tN, rfl⟩⟩, ?_⟩ | refine ⟨⟨_, rfl, .inl ⟨ivEq tX, rfl⟩⟩, ?_⟩ | refine ⟨⟨_, rfl, .inr ⟨_, rfl, tW⟩⟩, ?_⟩)) trivial rfl ?_
      (first | exact s_o1 hC rfl tV | exact s_o2 hC rfl tV tV | exact s_o3 hC rfl tV tV tV | exact s_o4 hC rfl tV tV tV tV | exact s_out0 hC rfl | exact s_outO hC rfl rfl rfl)
    · rw [if_neg (by simpa using hb)]
      refine nK ?_
      refine s_reg rfl ?_
      refine Run.pure (dd := some 8) rfl rfl (op_assign rfl (Opd.const _)) ?_
      refine Run.nil (FinR.mk ?_)
      refine nK ?_
      refine Next.adopt 8 7 rfl ?_
      refine nK ?_
      refine s_reg rfl ?_
      refine Run.pure (dd := some 21) rfl rfl (op_move rfl (Opd.tmp _ _ rfl)) ?_
      refine Run.pure (dd := some 22) rfl rfl (op_len_fz rfl (by first | exact Opd.tmp _ _ rfl | exact Opd.nil _ _ (Opd.tmp _ _ rfl)) (by first | exact List.length_map _ | rfl)) ?_
      refine Run.pure (dd := some 23) rfl rfl (op_move rfl (Opd.const _)) ?_
      refine Run.nil (FinR.mk ?_)
      refine nK ?_
      refine n_loop (ι := Nat × List Rte) (fun g => ([(3, .ptr 0 7 0 0), (8, .sl 1 7 0 g.2.length), (21, .fz (VRt l)), (22, IV .i64 l.length), (23, IV .i64 g.1)], [(0, ORt r), (1, ORts g.2)], 2)) (fun g => g.1 ≤ l.length ∧ g.2 = (l.take g.1).filter fun x => !(decide (x.pf = r.pf) && decide (x.pr = r.pr))) (fun g => l.length - g.1) (0, []) ⟨Nat.zero_le _, by simp⟩ ?_ ?_
      · refine Next.weakS [3, 8] [] (by rfl) (by first | exact keeps0 hC _ | exact keepsN hC _ rfl) (by repeat (first | exact trivial | refine ⟨⟨_, rfl, .inl ⟨rfl, rfl⟩⟩, ?_⟩ | refine ⟨⟨_, rfl, .inl ⟨slEq rfl tN, rfl⟩⟩, ?_⟩ | refine ⟨⟨_, rfl, .inl ⟨ivEq tX, rfl⟩⟩, ?_⟩)) (by repeat (first | exact trivial | refine ⟨ent_same rfl rfl rfl tL, ?_⟩ | refine ⟨ent_same rfl rfl (rfEq rfl tU) tL, ?_⟩ | refine ⟨ent_same rfl rfl (flEq rfl (by first | (simp; done) | (simp; omega) | (simp [encHo, encRt, encP]; done) | simp [maxC, minC])) trivial, ?_⟩)) rfl (rel_intro)
      · intro ⟨i, out⟩ ⟨hi, hS⟩ K hK
        dsimp only at hi hS ⊢
        have hol : out.length ≤ i := by rw [hS]; exact Nat.le_trans (List.length_filter_le _ _) (by simp; omega)
        refine nK ?_
        refine s_reg rfl ?_
        refine Run.pure (dd := some 24) rfl rfl (op_lss rfl (Opd.tmp _ _ rfl) (Opd.tmp _ _ rfl)) ?_
        refine Run.nil (FinR.mk ?_)
        refine nK ?_
        refine n_cond _ rfl (fun hb => ?_) (fun hb => ?_)
        · have hlt : i < l.length := by simp at hb; omega
          have hr1 := row_at' encRt l i hlt
          have hs := filt_take (fun x => !(decide (x.pf = r.pf) && decide (x.pr = r.pr))) hlt
          rw [← hS] at hs
          have hK1 := fun o h => hK (i + 1, o) ⟨by dsimp only; omega, h⟩ (by dsimp only; omega)
          dsimp only at hK1
          generalize l[i] = x at *
          have hc : (!(decide (x.pf = r.pf) && decide (x.pr = r.pr))) = (!eqFs (encP x.pf) (encP r.pf) || decide (x.pr ≠ r.pr)) := by
            rw [eqFs_encP, Bool.not_and]; simp
          refine nK ?_
          refine s_reg rfl ?_
          refine Run.pure (dd := some 25) rfl rfl (op_idx_fz _ rfl (Opd.tmp _ _ rfl) (Opd.tmp _ _ rfl) tF) ?_
          refine Run.pure (dd := some 26) rfl rfl (op_loadw_fz rfl (Opd.tmp _ _ rfl) rfl) ?_
          refine Run.eff (dd := some 10) rfl rfl (op_alloc rfl rfl rfl rfl) ?_
          refine Run.eff (dd := none) rfl rfl (op_store_flat rfl (Opd.tmp _ _ rfl) (Opd.tmp _ _ rfl) tC rfl rfl (by first | rfl | assumption) tS) ?_
          refine Run.nil (FinR.mk ?_)
          refine nK ?_
          refine s_reg rfl ?_
          refine Run.pure (dd := some 27) rfl rfl (op_fld_ptr (by decide) rfl (Opd.tmp _ _ rfl)) ?_
          refine Run.load (dd := some 28) rfl rfl (op_loadn_flat rfl (Opd.tmp _ _ rfl) tH tR tR) ?_
          refine Run.pure (dd := some 29) rfl rfl (op_fld_ptr (by decide) rfl (Opd.tmp _ _ rfl)) ?_
          refine Run.load (dd := some 30) rfl rfl (op_loadn_flat rfl (Opd.tmp _ _ rfl) tH tR tR) ?_
          refine Run.pure (dd := some 31) rfl rfl (op_neS rfl (Opd.tmp _ _ rfl) (Opd.tmp _ _ rfl) (by kernel_rfl)) ?_
          refine Run.pure (dd := some 32) rfl rfl (op_move rfl (Opd.tmp _ _ rfl)) ?_
          refine Run.pureG (dd := some 33) rfl rfl rfl tG (op_fld_ptr (by decide) rfl (Opd.tmp _ _ rfl)) ?_
          refine Run.loadG (dd := some 34) rfl rfl rfl tG (op_load1_flat rfl (Opd.topt _ _ _ rfl tO) tH rfl) ?_
          refine Run.pureG (dd := some 35) rfl rfl rfl tG (op_fld_ptr (by decide) rfl (Opd.tmp _ _ rfl)) ?_
          refine Run.loadG (dd := some 36) rfl rfl rfl tG (op_load1_flat rfl (Opd.topt _ _ _ rfl tO) tH rfl) ?_
          refine Run.pureG (dd := some 37) rfl rfl rfl tG (op_neq rfl (Opd.topt _ _ _ rfl tO) (Opd.topt _ _ _ rfl tO)) ?_
          refine Run.pure (dd := some 38) rfl rfl (op_pick_or rfl (Opd.tmp _ _ rfl) (Opd.topt _ _ _ rfl tO)) ?_
          refine Run.nil (FinR.mk ?_)
          refine nK ?_
          refine n_cond _ rfl (fun hb => ?_) (fun hb => ?_)
          · have hb' : (!eqFs (encP x.pf) (encP r.pf) || decide (x.pr ≠ r.pr)) = true := hb
            rw [if_pos (hc.trans hb')] at hs
            have hK2 := hK1 (out ++ [x]) hs.symm
            unfold ORts at hK2
            rw [app1, app2] at hK2
            refine nK ?_
            refine s_reg rfl ?_
            refine Run.pure (dd := some 39) rfl rfl (op_move rfl (Opd.tmp _ _ rfl)) ?_
            refine Run.load (dd := some 40) rfl rfl (op_loadw_flat rfl (Opd.tmp _ _ rfl) tH rfl) ?_
            refine Run.pure (dd := some 41) rfl rfl (op_buildSlice_fz rfl (RowsF.cons _ _ _ _ _ _ (Opd.tmp _ _ rfl) tC (by rfl) (RowsF.nil _)) rfl rfl) ?_
            refine Run.eff (dd := some 42) rfl rfl (op_append rfl (Opd.tmp _ _ rfl) (Opd.tmp _ _ rfl) rfl (by simp) rfl rfl tB tB) ?_
            refine Run.pure (dd := some 8) rfl rfl (op_assign rfl (Opd.tmp _ _ rfl)) ?_
            refine Run.nil (FinR.mk ?_)
            refine nK ?_
            refine s_reg rfl ?_
            refine Run.pure (dd := some 43) rfl rfl (op_add rfl (Opd.tmp _ _ rfl) (Opd.const _) tI) ?_
            refine Run.pure (dd := some 23) rfl rfl (op_move rfl (Opd.tmp _ _ rfl)) ?_
            refine Run.nil (FinR.mk ?_)
            refine nK ?_
            refine Next.weakS [3, 8] [] (by rfl) (by first | exact keeps0 hC _ | exact keepsN hC _ rfl) (by repeat (first | exact trivial | refine ⟨⟨_, rfl, .inl ⟨rfl, rfl⟩⟩, ?_⟩ | refine ⟨⟨_, rfl, .inl ⟨slEq rfl tN, rfl⟩⟩, ?_⟩ | refine ⟨⟨_, rfl, .inl ⟨ivEq tX, rfl⟩⟩, ?_⟩)) (by repeat (first | exact trivial | refine ⟨ent_same rfl rfl rfl tL, ?_⟩ | refine ⟨ent_same rfl rfl (rfEq rfl tU) tL, ?_⟩ | refine ⟨ent_same rfl rfl (flEq rfl (by first | (simp; done) | (simp; omega) | (simp [encHo, encRt, encP]; done) | simp [maxC, minC])) trivial, ?_⟩)) rfl (hK2)
          · have hb' : (!eqFs (encP x.pf) (encP r.pf) || decide (x.pr ≠ r.pr)) = false := hb
            rw [if_neg (by rw [hc, hb']; decide), List.append_nil] at hs
            refine nK ?_
            refine s_reg rfl ?_
            refine Run.pure (dd := some 43) rfl rfl (op_add rfl (Opd.tmp _ _ rfl) (Opd.const _) tI) ?_
            refine Run.pure (dd := some 23) rfl rfl (op_move rfl (Opd.tmp _ _ rfl)) ?_
            refine Run.nil (FinR.mk ?_)
            refine nK ?_
            refine Next.weakS [3, 8] [] (by rfl) (by first | exact keeps0 hC _ | exact keepsN hC _ rfl) (by repeat (first | exact trivial | refine ⟨⟨_, rfl, .inl ⟨rfl, rfl⟩⟩, ?_⟩ | refine ⟨⟨_, rfl, .inl ⟨slEq rfl tN, rfl⟩⟩, ?_⟩ | refine ⟨⟨_, rfl, .inl ⟨ivEq tX, rfl⟩⟩, ?_⟩)) (by repeat (first | exact trivial | refine ⟨ent_same rfl rfl rfl tL, ?_⟩ | refine ⟨ent_same rfl rfl (rfEq rfl tU) tL, ?_⟩ | refine ⟨ent_same rfl rfl (flEq rfl (by first | (simp; done) | (simp; omega) | (simp [encHo, encRt, encP]; done) | simp [maxC, minC])) trivial, ?_⟩)) rfl ((hK1 out hs.symm))
        · have hie : i = l.length := by simp at hb; omega
          rw [hie, List.take_length] at hS
          rw [← hS]
          clear hK hS
          refine nK ?_
          refine Next.weakS [3] [8] (by rfl) (keeps0 hC _) (G' := [(3, .ptr 0 7 0 0), (8, .fz (VRt out))]) (H' := [(0, ORt r)]) (by repeat (first | exact trivial | refine ⟨⟨_, rfl, .inl ⟨rfl, rfl⟩⟩, ?_⟩ | refine ⟨⟨_, rfl, .inl ⟨slEq rfl tN, rfl⟩⟩, ?_⟩ | refine ⟨⟨_, rfl, .inl ⟨ivEq tX, rfl⟩⟩, ?_⟩ | refine ⟨⟨_, rfl, .inr ⟨_, rfl, tW⟩⟩, ?_⟩)) (by exact ⟨ent_same rfl rfl rfl tL, trivial⟩) rfl ?_
          have hri := rinsert_f out r (by omega)
          refine nK ?_
          refine s_reg rfl ?_
          refine Run.pure (dd := some 44) rfl rfl (op_move rfl (Opd.tmp _ _ rfl)) ?_
          refine Run.pure (dd := some 45) rfl rfl (op_len_fz rfl (by first | exact Opd.tmp _ _ rfl | exact Opd.nil _ _ (Opd.tmp _ _ rfl)) (by first | exact List.length_map _ | rfl)) ?_
          refine Run.pure (dd := some 46) rfl rfl (op_geq rfl (Opd.tmp _ _ rfl) (Opd.const _)) ?_
          refine Run.nil (FinR.mk ?_)
          refine nK ?_
          refine n_cond _ rfl (fun hb => ?_) (fun hb => ?_)
          · rw [if_pos (by simp at hb; omega)]
            refine nK ?_
            refine s_reg rfl ?_
            refine Run.pure (dd := some 4) rfl rfl (op_assign rfl (Opd.const _)) ?_
            refine Run.pure (dd := some 5) rfl rfl (op_assign rfl (Opd.const _)) ?_
            refine Run.nil (FinR.mk ?_)
            refine nK ?_
            refine Next.weakS [] [] (by rfl) (keeps0 hC _) (G' := [(4, .fz (VRt [])), (5, IV .i64 4)]) (H' := []) (by repeat (first | exact trivial | refine ⟨⟨_, rfl, .inl ⟨rfl, rfl⟩⟩, ?_⟩ | refine ⟨⟨_, rfl, .inl ⟨slEq rfl tN, rfl⟩⟩, ?_⟩ | refine ⟨⟨_, rfl, .inl ⟨ivEq tX, rfl⟩⟩, ?_⟩ | refine ⟨⟨_, rfl, .inr ⟨_, rfl, tW⟩⟩, ?_⟩)) trivial rfl ?_
            (first | exact s_o1 hC rfl tV | exact s_o2 hC rfl tV tV | exact s_o3 hC rfl tV tV tV | exact s_o4 hC rfl tV tV tV tV | exact s_out0 hC rfl | exact s_outO hC rfl rfl rfl)
          · rw [if_neg (by simp at hb; omega)]
            refine nK ?_
            refine s_reg rfl ?_
            refine Run.pure (dd := some 47) rfl rfl (op_move rfl (Opd.tmp _ _ rfl)) ?_
            refine Run.load (dd := some 48) rfl rfl (op_loadw_flat rfl (Opd.tmp _ _ rfl) tH rfl) ?_
            refine Run.eff (dd := some 49) rfl rfl (op_call_fresh (fun _ => hri) rfl (Opd.func _) (Opds.cons _ _ _ _ (Opd.tmp _ _ rfl) (Opds.cons _ _ _ _ (Opd.tmp _ _ rfl) Opds.nil))) ?_
            refine Run.pure (dd := some 4) rfl rfl (op_assign rfl (Opd.tmp _ _ rfl)) ?_
            refine Run.pure (dd := some 5) rfl rfl (op_assign rfl (Opd.const _)) ?_
            refine Run.nil (FinR.mk ?_)
            refine nK ?_
            refine Next.weakS [] [4] (by rfl) (keeps0 hC _) (G' := [(4, .fz (VRt (insRt r out))), (5, IV .i64 0)]) (H' := []) (by repeat (first | exact trivial | refine ⟨⟨_, rfl, .inl ⟨rfl, rfl⟩⟩, ?_⟩ | refine ⟨⟨_, rfl, .inl ⟨slEq rfl tN, rfl⟩⟩, ?_⟩ | refine ⟨⟨_, rfl, .inl ⟨ivEq tX, rfl⟩⟩, ?_⟩ | refine ⟨⟨_, rfl, .inr ⟨_, rfl, tW⟩⟩, ?_⟩)) trivial rfl ?_
            (first | exact s_o1 hC rfl tV | exact s_o2 hC rfl tV tV | exact s_o3 hC rfl tV tV tV | exact s_o4 hC rfl tV tV tV tV | exact s_out0 hC rfl | exact s_outO hC rfl rfl rfl)
end Go.Proofs.Ytinddhlmgiahiaa
/- Prefixes that were seen. No program in sight. -/
namespace Go.Pl
open Go Go.RT
set_option linter.all false
def pfM (s : List Rte) : List (Pfx × Bool) := s.foldl (fun m x => mput m x.pf true) []
theorem pfM_take {l : List Rte} {i : Nat} (h : i < l.length) : pfM (l.take (i + 1)) = mput (pfM (l.take i)) l[i].pf true := by
  unfold pfM
  rw [List.take_succ_eq_append_getElem h, List.foldl_append]; rfl
theorem pfM_go (p : Pfx) : ∀ (s : List Rte) (m : List (Pfx × Bool)), (mget (s.foldl (fun m x => mput m x.pf true) m) p).getD false = ((s.any fun y => decide (y.pf = p)) || (mget m p).getD false)
  | [], m => by simp
  | x :: s, m => by
    rw [List.foldl_cons, pfM_go p s, mget_mput, List.any_cons]
    by_cases e : x.pf = p
    · rw [if_pos e]; simp [e]
    · rw [if_neg e]; simp [e]
theorem pfM_get (s : List Rte) (p : Pfx) : (mget (pfM s) p).getD false = s.any fun y => decide (y.pf = p) := by
  unfold pfM
  rw [pfM_go]; simp [mget]
theorem pfM_ok : ∀ (s : List Rte) (m : List (Pfx × Bool)), (∀ x ∈ s, okRt x) → (m.map (·.1)).Nodup → (∀ p ∈ m, p.1.ok) →
    ((s.foldl (fun m x => mput m x.pf true) m).map (·.1)).Nodup ∧ ∀ p ∈ s.foldl (fun m x => mput m x.pf true) m, p.1.ok
  | [], m, _, h1, h2 => ⟨h1, h2⟩
  | x :: s, m, ho, h1, h2 => by
    rw [List.foldl_cons]
    refine pfM_ok s _ (fun y hy => ho y (List.mem_cons_of_mem _ hy)) (mput_nodup h1) fun p hp => ?_
    rcases mput_keys m _ _ p hp with e | e
    · rw [e]; exact (ho x (List.mem_cons_self ..)).1
    · exact h2 p e
theorem has_any {s : List Rte} {n : Int} (h : ∀ y ∈ s, y.pr = n) (p : Pfx) : hasB s p n = s.any fun y => decide (y.pf = p) := by
  induction s with
  | nil => rfl
  | cons x s ih =>
    have e : hasB (x :: s) p n = ((decide (x.pf = p) && decide (x.pr = n)) || hasB s p n) := rfl
    rw [e, ih fun y hy => h y (List.mem_cons_of_mem _ hy), List.any_cons, h x (List.mem_cons_self ..)]; simp
/-- what the loop of insertions keeps -/
theorem ins_keep {rs o : List Rte} (hr : rs.Pairwise fun a b => a.pf ≠ b.pf) (ho : o.Pairwise ltRt) (hn : ∀ r ∈ rs, ∀ y ∈ o, ¬ (y.pf = r.pf ∧ y.di = r.di ∧ y.pr = r.pr)) (i : Nat) : (insAll (rs.take i) o).Pairwise ltRt :=
  (insAll_ok (rs.take i) o (hr.sublist (List.take_sublist _ _)) ho fun r h => hn r (List.mem_of_mem_take h)).1
end Go.Pl
namespace Go.Proofs.Ytinddhlmgiahiaa
open Go Go.RT Go.Proofs Go.Pl
set_option linter.all false
set_option maxRecDepth 20000
theorem replP_c (n : Int) (x : Rte) : Pure Try.prog 49 [.agg (encRt x), .cellp [If .i64 n]] (Bf (decide (x.pr = n))) := by
  refine Meets.intro Try.func49 rfl (Nat.le_of_ble_eq_true rfl) fun C hC => ?_
  simp only [List.map, argEnv, Nat.reduceAdd]
  refine nK ?_
  refine s_reg rfl ?_
  refine Run.eff (dd := some 2) rfl rfl (op_box_flat rfl (Opd.tmp _ _ rfl) tC rfl) ?_
  refine Run.pure (dd := some 3) rfl rfl (op_assign rfl (Opd.const _)) ?_
  refine Run.nil (FinR.mk ?_)
  refine nK ?_
  refine s_reg rfl ?_
  refine Run.pure (dd := some 4) rfl rfl (op_fld_ptr (by decide) rfl (Opd.tmp _ _ rfl)) ?_
  refine Run.load (dd := some 5) rfl rfl (op_load1_flat rfl (Opd.tmp _ _ rfl) tH rfl) ?_
  refine Run.pure (dd := some 6) rfl rfl (op_load1_fz rfl (Opd.tmp _ _ rfl) rfl) ?_
  refine Run.pure (dd := some 7) rfl rfl (op_eql rfl (Opd.tmp _ _ rfl) (Opd.tmp _ _ rfl)) ?_
  refine Run.pure (dd := some 3) rfl rfl (op_assign rfl (Opd.tmp _ _ rfl)) ?_
  refine Run.nil (FinR.mk ?_)
  refine nK ?_
  (first | exact s_o1 hC rfl tV | exact s_o2 hC rfl tV tV | exact s_o3 hC rfl tV tV tV | exact s_o4 hC rfl tV tV tV tV | exact s_out0 hC rfl | exact s_outO hC rfl rfl rfl)
theorem repl_c (l : List Rte) (n : Int) (rs : List Rte) (ho : ∀ x ∈ l, okRt x) (hh : ∀ x ∈ l, lenOk x.hs.length) (hn : l.length ≤ 4000) (ho2 : ∀ x ∈ rs, okRt x) (hh2 : ∀ x ∈ rs, lenOk x.hs.length) (hn2 : rs.length ≤ 4000) : Pure Try.prog 26 [VRt l, If .i64 n, VRt rs] (.tup [VRt (replF l n rs).1, If .i64 (replF l n rs).2]) := by
  have kc := ckl_c l ho hh (by unfold lenOk; omega)
  unfold replF
  refine Meets.intro Try.func26 rfl (Nat.le_of_ble_eq_true rfl) fun C hC => ?_
  simp only [List.map, argEnv, Nat.reduceAdd]
  refine nK ?_
  refine s_reg rfl ?_
  refine Run.eff (dd := some 4) rfl rfl (op_box_flat rfl (Opd.tmp _ _ rfl) tC rfl) ?_
  refine Run.pure (dd := some 6) rfl rfl (op_assign rfl (Opd.const _)) ?_
  refine Run.pure (dd := some 7) rfl rfl (op_assign rfl (Opd.const _)) ?_
  refine Run.nil (FinR.mk ?_)
  refine nK ?_
  refine s_reg rfl ?_
  refine Run.pure (dd := some 16) rfl rfl (op_move rfl (Opd.tmp _ _ rfl)) ?_
  refine Run.pure (dd := some 17) rfl rfl (op_call_pure (fun _ => kc) rfl (Opd.func _) (Opds.cons _ _ _ _ (Opd.tmp _ _ rfl) Opds.nil)) ?_
  refine Run.pure (dd := some 8) rfl rfl (op_assign rfl (Opd.tmp _ _ rfl)) ?_
  refine Run.nil (FinR.mk ?_)
  refine nK ?_
  refine s_reg rfl ?_
  refine Run.pure (dd := some 18) rfl rfl (op_move rfl (Opd.tmp _ _ rfl)) ?_
  refine Run.pure (dd := some 19) rfl rfl (op_neq rfl (Opd.tmp _ _ rfl) (Opd.const _)) ?_
  refine Run.nil (FinR.mk ?_)
  refine nK ?_
  refine n_cond _ rfl (fun hb => ?_) (fun hb => ?_)
  · rw [if_pos (by simpa using hb)]
    refine nK ?_
    refine s_reg rfl ?_
    refine Run.pure (dd := some 20) rfl rfl (op_move rfl (Opd.tmp _ _ rfl)) ?_
    refine Run.pure (dd := some 6) rfl rfl (op_assign rfl (Opd.const _)) ?_
    refine Run.pure (dd := some 7) rfl rfl (op_assign rfl (Opd.tmp _ _ rfl)) ?_
    refine Run.nil (FinR.mk ?_)
    refine nK ?_
    refine Next.weakS [] [] (by rfl) (keeps0 hC _) (G' := [(6, .fz (VRt [])), (7, IV .i64 (checkL l))]) (H' := []) (by repeat (first | exact trivial | refine ⟨⟨_, rfl, .inl ⟨rfl, rfl⟩⟩, ?_⟩ | refine ⟨⟨_, rfl, .inl ⟨slEq rfl tN, rfl⟩⟩, ?_⟩ | refine ⟨⟨_, rfl, .inl ⟨ivEq tX, rfl⟩⟩, ?_⟩ | refine ⟨⟨_, rfl, .inr ⟨_, rfl, tW⟩⟩, ?_⟩)) trivial rfl ?_
    (first | exact s_o1 hC rfl tV | exact s_o2 hC rfl tV tV | exact s_o3 hC rfl tV tV tV | exact s_o4 hC rfl tV tV tV tV | exact s_out0 hC rfl | exact s_outO hC rfl rfl rfl)
  · have h0 : checkL l = 0 := by simpa using hb
    rw [if_neg (by simpa using hb)]
    refine nK ?_
    refine s_reg rfl ?_
    refine Run.load (dd := some 21) rfl rfl (op_load1_flat rfl (Opd.tmp _ _ rfl) tH rfl) ?_
    refine Run.pure (dd := some 22) rfl rfl (op_call_pure (fun _ => out_c _ _ _) rfl (Opd.func _) (Opds.cons _ _ _ _ (Opd.tmp _ _ rfl) (Opds.cons _ _ _ _ (Opd.const _) (Opds.cons _ _ _ _ (Opd.const _) Opds.nil)))) ?_
    refine Run.nil (FinR.mk ?_)
    refine nK ?_
    refine n_cond _ rfl (fun hb => ?_) (fun hb => ?_)
    · rw [if_pos hb]
      refine nK ?_
      refine s_reg rfl ?_
      refine Run.pure (dd := some 6) rfl rfl (op_assign rfl (Opd.const _)) ?_
      refine Run.pure (dd := some 7) rfl rfl (op_assign rfl (Opd.const _)) ?_
      refine Run.nil (FinR.mk ?_)
      refine nK ?_
      refine Next.weakS [] [] (by rfl) (keeps0 hC _) (G' := [(6, .fz (VRt [])), (7, IV .i64 15)]) (H' := []) (by repeat (first | exact trivial | refine ⟨⟨_, rfl, .inl ⟨rfl, rfl⟩⟩, ?_⟩ | refine ⟨⟨_, rfl, .inl ⟨slEq rfl tN, rfl⟩⟩, ?_⟩ | refine ⟨⟨_, rfl, .inl ⟨ivEq tX, rfl⟩⟩, ?_⟩ | refine ⟨⟨_, rfl, .inr ⟨_, rfl, tW⟩⟩, ?_⟩)) trivial rfl ?_
      (first | exact s_o1 hC rfl tV | exact s_o2 hC rfl tV tV | exact s_o3 hC rfl tV tV tV | exact s_o4 hC rfl tV tV tV tV | exact s_out0 hC rfl | exact s_outO hC rfl rfl rfl)
    · rw [if_neg (by rw [hb]; decide)]
      refine nK ?_
      refine s_reg rfl ?_
      refine Run.eff (dd := some 23) rfl rfl (op_makeMap rfl) ?_
      refine Run.pure (dd := some 9) rfl rfl (op_assign rfl (Opd.tmp _ _ rfl)) ?_
      refine Run.nil (FinR.mk ?_)
      refine nK ?_
      refine s_reg rfl ?_
      refine Run.pure (dd := some 24) rfl rfl (op_move rfl (Opd.tmp _ _ rfl)) ?_
      refine Run.pure (dd := some 25) rfl rfl (op_len_fz rfl (by first | exact Opd.tmp _ _ rfl | exact Opd.nil _ _ (Opd.tmp _ _ rfl)) (by first | exact List.length_map _ | rfl)) ?_
      refine Run.pure (dd := some 26) rfl rfl (op_move rfl (Opd.const _)) ?_
      refine Run.nil (FinR.mk ?_)
      refine nK ?_
      refine n_loop (ι := Nat) (fun i => ([(0, .fz (VRt l)), (2, .fz (VRt rs)), (4, .ptr 0 1 0 0), (9, .mp 1), (24, .fz (VRt rs)), (25, IV .i64 rs.length), (26, IV .i64 i)], [(0, some (.flat 1 [[If .i64 n]])), (1, OMap ekP Bf (pfM (rs.take i)))], 2)) (fun i => i ≤ rs.length ∧ replGo n (rs.take i) (rs.drop i) = replGo n [] rs) (fun i => rs.length - i) 0 ⟨Nat.zero_le _, rfl⟩ ?_ ?_
      · refine Next.weakS [4, 9] [] (by rfl) (by first | exact keeps0 hC _ | exact keepsN hC _ rfl) (by repeat (first | exact trivial | refine ⟨⟨_, rfl, .inl ⟨rfl, rfl⟩⟩, ?_⟩ | refine ⟨⟨_, rfl, .inl ⟨slEq rfl tN, rfl⟩⟩, ?_⟩ | refine ⟨⟨_, rfl, .inl ⟨ivEq tX, rfl⟩⟩, ?_⟩)) (by repeat (first | exact trivial | refine ⟨ent_same rfl rfl rfl tL, ?_⟩ | refine ⟨ent_same rfl rfl (rfEq rfl tU) tL, ?_⟩ | refine ⟨ent_same rfl rfl (flEq rfl (by first | (simp; done) | (simp; omega) | (simp [encHo, encRt, encP]; done) | simp [maxC, minC])) trivial, ?_⟩)) rfl (rel_intro)
      · intro i ⟨hi, hS⟩ K hK
        refine nK ?_
        refine s_reg rfl ?_
        refine Run.pure (dd := some 27) rfl rfl (op_lss rfl (Opd.tmp _ _ rfl) (Opd.tmp _ _ rfl)) ?_
        refine Run.nil (FinR.mk ?_)
        refine nK ?_
        refine n_cond _ rfl (fun hb => ?_) (fun hb => ?_)
        · have hlt : i < rs.length := by simp at hb; omega
          have hr1 := row_at' encRt rs i hlt
          rw [repl_step n hlt] at hS
          have hK1 := fun h => hK (i + 1) ⟨by omega, h⟩ (by omega)
          have okx := ho2 _ (List.getElem_mem hlt)
          have lx := hh2 _ (List.getElem_mem hlt)
          rw [pfM_take hlt] at hK1
          obtain ⟨kn, kk⟩ := pfM_ok (rs.take i) [] (fun y hy => ho2 y (List.mem_of_mem_take hy)) (by simp) (fun p hp => by simp at hp)
          have kg := fun p => pfM_get (rs.take i) p
          change ((pfM (rs.take i)).map (·.1)).Nodup at kn
          change ∀ p ∈ pfM (rs.take i), p.1.ok at kk
          generalize pfM (rs.take i) = M at *
          generalize rs[i] = x at *
          have kr := ckrt_c x okx lx
          refine nK ?_
          refine s_reg rfl ?_
          refine Run.pure (dd := some 28) rfl rfl (op_idx_fz _ rfl (Opd.tmp _ _ rfl) (Opd.tmp _ _ rfl) tF) ?_
          refine Run.pure (dd := some 29) rfl rfl (op_loadw_fz rfl (Opd.tmp _ _ rfl) rfl) ?_
          refine Run.eff (dd := some 11) rfl rfl (op_alloc rfl rfl rfl rfl) ?_
          refine Run.eff (dd := none) rfl rfl (op_store_flat rfl (Opd.tmp _ _ rfl) (Opd.tmp _ _ rfl) tC rfl rfl (by first | rfl | assumption) tS) ?_
          refine Run.nil (FinR.mk ?_)
          refine nK ?_
          refine s_reg rfl ?_
          refine Run.load (dd := some 30) rfl rfl (op_loadw_flat rfl (Opd.tmp _ _ rfl) tH rfl) ?_
          refine Run.pure (dd := some 31) rfl rfl (op_call_pure (fun _ => kr) rfl (Opd.func _) (Opds.cons _ _ _ _ (Opd.tmp _ _ rfl) Opds.nil)) ?_
          refine Run.pure (dd := some 12) rfl rfl (op_assign rfl (Opd.tmp _ _ rfl)) ?_
          refine Run.nil (FinR.mk ?_)
          refine nK ?_
          refine s_reg rfl ?_
          refine Run.pure (dd := some 32) rfl rfl (op_move rfl (Opd.tmp _ _ rfl)) ?_
          refine Run.pure (dd := some 33) rfl rfl (op_neq rfl (Opd.tmp _ _ rfl) (Opd.const _)) ?_
          refine Run.nil (FinR.mk ?_)
          refine nK ?_
          refine n_cond _ rfl (fun hb => ?_) (fun hb => ?_)
          · rw [if_pos (by simpa using hb)] at hS
            rw [← hS, if_pos (by simpa using hb)]
            refine nK ?_
            refine s_reg rfl ?_
            refine Run.pure (dd := some 34) rfl rfl (op_move rfl (Opd.tmp _ _ rfl)) ?_
            refine Run.pure (dd := some 6) rfl rfl (op_assign rfl (Opd.const _)) ?_
            refine Run.pure (dd := some 7) rfl rfl (op_assign rfl (Opd.tmp _ _ rfl)) ?_
            refine Run.nil (FinR.mk ?_)
            refine nK ?_
            refine Next.weakS [] [] (by rfl) (keeps0 hC _) (G' := [(6, .fz (VRt [])), (7, IV .i64 (checkRt x))]) (H' := []) (by repeat (first | exact trivial | refine ⟨⟨_, rfl, .inl ⟨rfl, rfl⟩⟩, ?_⟩ | refine ⟨⟨_, rfl, .inl ⟨slEq rfl tN, rfl⟩⟩, ?_⟩ | refine ⟨⟨_, rfl, .inl ⟨ivEq tX, rfl⟩⟩, ?_⟩ | refine ⟨⟨_, rfl, .inr ⟨_, rfl, tW⟩⟩, ?_⟩)) trivial rfl ?_
            (first | exact s_o1 hC rfl tV | exact s_o2 hC rfl tV tV | exact s_o3 hC rfl tV tV tV | exact s_o4 hC rfl tV tV tV tV | exact s_out0 hC rfl | exact s_outO hC rfl rfl rfl)
          · rw [if_neg (by simpa using hb)] at hS
            refine nK ?_
            refine s_reg rfl ?_
            refine Run.pure (dd := some 35) rfl rfl (op_fld_ptr (by decide) rfl (Opd.tmp _ _ rfl)) ?_
            refine Run.load (dd := some 36) rfl rfl (op_load1_flat rfl (Opd.tmp _ _ rfl) tH rfl) ?_
            refine Run.load (dd := some 37) rfl rfl (op_load1_flat rfl (Opd.tmp _ _ rfl) tH rfl) ?_
            refine Run.pure (dd := some 38) rfl rfl (op_neq rfl (Opd.tmp _ _ rfl) (Opd.tmp _ _ rfl)) ?_
            refine Run.nil (FinR.mk ?_)
            refine nK ?_
            refine n_cond _ rfl (fun hb => ?_) (fun hb => ?_)
            · rw [if_pos (by simpa using hb)] at hS
              rw [← hS, if_pos (by decide)]
              refine nK ?_
              refine s_reg rfl ?_
              refine Run.pure (dd := some 6) rfl rfl (op_assign rfl (Opd.const _)) ?_
              refine Run.pure (dd := some 7) rfl rfl (op_assign rfl (Opd.const _)) ?_
              refine Run.nil (FinR.mk ?_)
              refine nK ?_
              refine Next.weakS [] [] (by rfl) (keeps0 hC _) (G' := [(6, .fz (VRt [])), (7, IV .i64 14)]) (H' := []) (by repeat (first | exact trivial | refine ⟨⟨_, rfl, .inl ⟨rfl, rfl⟩⟩, ?_⟩ | refine ⟨⟨_, rfl, .inl ⟨slEq rfl tN, rfl⟩⟩, ?_⟩ | refine ⟨⟨_, rfl, .inl ⟨ivEq tX, rfl⟩⟩, ?_⟩ | refine ⟨⟨_, rfl, .inr ⟨_, rfl, tW⟩⟩, ?_⟩)) trivial rfl ?_
              (first | exact s_o1 hC rfl tV | exact s_o2 hC rfl tV tV | exact s_o3 hC rfl tV tV tV | exact s_o4 hC rfl tV tV tV tV | exact s_out0 hC rfl | exact s_outO hC rfl rfl rfl)
            · rw [if_neg (by simpa using hb)] at hS
              refine nK ?_
              refine s_reg rfl ?_
              refine Run.pure (dd := some 39) rfl rfl (op_move rfl (Opd.tmp _ _ rfl)) ?_
              refine Run.pure (dd := some 40) rfl rfl (op_fld_ptr (by decide) rfl (Opd.tmp _ _ rfl)) ?_
              refine Run.load (dd := some 41) rfl rfl (op_loadn_flat rfl (Opd.tmp _ _ rfl) tH tR tR) ?_
              refine Run.load (dd := some 42) rfl rfl (op_lookup (κ := Pfx) (ν := Bool) (ek := ekP) (ev := Bf) (l := M) (k := x.pf) false rfl (Opd.tmp _ _ rfl) (Opd.tmp _ _ rfl) rfl (by intro _; exact ⟨kn, kk, okx.1⟩) (fun w S => .lit _)) ?_
              refine Run.nil (FinR.mk ?_)
              refine nK ?_
              refine n_cond _ rfl (fun hb => ?_) (fun hb => ?_)
              · have hb' : (mget M x.pf).getD false = true := hb
                rw [kg] at hb'
                rw [if_pos hb'] at hS
                rw [← hS, if_pos (by decide)]
                refine nK ?_
                refine s_reg rfl ?_
                refine Run.pure (dd := some 6) rfl rfl (op_assign rfl (Opd.const _)) ?_
                refine Run.pure (dd := some 7) rfl rfl (op_assign rfl (Opd.const _)) ?_
                refine Run.nil (FinR.mk ?_)
                refine nK ?_
                refine Next.weakS [] [] (by rfl) (keeps0 hC _) (G' := [(6, .fz (VRt [])), (7, IV .i64 7)]) (H' := []) (by repeat (first | exact trivial | refine ⟨⟨_, rfl, .inl ⟨rfl, rfl⟩⟩, ?_⟩ | refine ⟨⟨_, rfl, .inl ⟨slEq rfl tN, rfl⟩⟩, ?_⟩ | refine ⟨⟨_, rfl, .inl ⟨ivEq tX, rfl⟩⟩, ?_⟩ | refine ⟨⟨_, rfl, .inr ⟨_, rfl, tW⟩⟩, ?_⟩)) trivial rfl ?_
                (first | exact s_o1 hC rfl tV | exact s_o2 hC rfl tV tV | exact s_o3 hC rfl tV tV tV | exact s_o4 hC rfl tV tV tV tV | exact s_out0 hC rfl | exact s_outO hC rfl rfl rfl)
              · have hb' : (mget M x.pf).getD false = false := hb
                rw [kg] at hb'
                rw [if_neg (by rw [hb']; decide)] at hS
                refine nK ?_
                refine s_reg rfl ?_
                refine Run.pure (dd := some 43) rfl rfl (op_move rfl (Opd.tmp _ _ rfl)) ?_
                refine Run.pure (dd := some 44) rfl rfl (op_fld_ptr (by decide) rfl (Opd.tmp _ _ rfl)) ?_
                refine Run.load (dd := some 45) rfl rfl (op_loadn_flat rfl (Opd.tmp _ _ rfl) tH tR tR) ?_
                refine Run.eff (dd := none) rfl rfl (op_mapPut (κ := Pfx) (ν := Bool) (ek := ekP) (ev := Bf) (l := M) (k := x.pf) (v := true) (.inl rfl) (Opd.tmp _ _ rfl) (Opd.tmp _ _ rfl) (Opd.const _) rfl kn kk okx.1) ?_
                refine Run.nil (FinR.mk ?_)
                refine nK ?_
                refine s_reg rfl ?_
                refine Run.pure (dd := some 46) rfl rfl (op_add rfl (Opd.tmp _ _ rfl) (Opd.const _) tI) ?_
                refine Run.pure (dd := some 26) rfl rfl (op_move rfl (Opd.tmp _ _ rfl)) ?_
                refine Run.nil (FinR.mk ?_)
                refine nK ?_
                refine Next.weakS [4, 9] [] (by rfl) (by first | exact keeps0 hC _ | exact keepsN hC _ rfl) (by repeat (first | exact trivial | refine ⟨⟨_, rfl, .inl ⟨rfl, rfl⟩⟩, ?_⟩ | refine ⟨⟨_, rfl, .inl ⟨slEq rfl tN, rfl⟩⟩, ?_⟩ | refine ⟨⟨_, rfl, .inl ⟨ivEq tX, rfl⟩⟩, ?_⟩)) (by repeat (first | exact trivial | refine ⟨ent_same rfl rfl rfl tL, ?_⟩ | refine ⟨ent_same rfl rfl (rfEq rfl tU) tL, ?_⟩ | refine ⟨ent_same rfl rfl (flEq rfl (by first | (simp; done) | (simp; omega) | (simp [encHo, encRt, encP]; done) | simp [maxC, minC])) trivial, ?_⟩)) rfl ((hK1 hS))
        · have hie : i = rs.length := by simp at hb; omega
          rw [hie, List.drop_length] at hS
          simp only [replGo] at hS
          rw [if_neg (by rw [← hS]; decide)]
          obtain ⟨f1, f2, _⟩ := (repl_iff n rs []).1 hS.symm
          clear hS hK
          have hlen := tab_len h0
          have hT := (check_iff l).1 h0
          have hw := without_f l hn hlen 49 [.cellp [If .i64 n]] (fun x => decide (x.pr = n)) (replP_c n)
          have hfl : (l.filter fun x => !decide (x.pr = n)).length ≤ l.length := List.length_filter_le _ _
          have hfa : (l.filter fun x => !decide (x.pr = n)).Pairwise ltRt := hT.asc.filter _
          have hfn : ∀ r ∈ rs, ∀ y ∈ l.filter (fun x => !decide (x.pr = n)), ¬ (y.pf = r.pf ∧ y.di = r.di ∧ y.pr = r.pr) := fun r hr y hy k => by
            have h1 := (List.mem_filter.1 hy).2
            rw [k.2.2, (f1 r hr).2] at h1; simp at h1
          have hkp := fun i => ins_keep f2 hfa hfn i
          show RT.Next _ _ _ _ _ _
          generalize (l.filter fun x => !decide (x.pr = n)) = out at *
          refine nK ?_
          refine Next.weakS [] [4] (by rfl) (keeps0 hC _) (G' := [(0, .fz (VRt l)), (2, .fz (VRt rs)), (4, .fz (.cellp [If .i64 n]))]) (H' := []) (by repeat (first | exact trivial | refine ⟨⟨_, rfl, .inl ⟨rfl, rfl⟩⟩, ?_⟩ | refine ⟨⟨_, rfl, .inl ⟨slEq rfl tN, rfl⟩⟩, ?_⟩ | refine ⟨⟨_, rfl, .inl ⟨ivEq tX, rfl⟩⟩, ?_⟩ | refine ⟨⟨_, rfl, .inr ⟨_, rfl, tW⟩⟩, ?_⟩)) trivial rfl ?_
          refine nK ?_
          refine s_reg rfl ?_
          refine Run.pure (dd := some 47) rfl rfl (op_move rfl (Opd.tmp _ _ rfl)) ?_
          refine Run.pure (dd := some 48) rfl rfl (op_makeFuncF (fs := [.cellp [If .i64 n]]) rfl (Opds.cons _ _ _ _ (Opd.tmp _ _ rfl) Opds.nil)) ?_
          refine Run.eff (dd := some 49) rfl rfl (op_call_fresh (fun _ => hw) rfl (Opd.func _) (Opds.cons _ _ _ _ (Opd.tmp _ _ rfl) (Opds.cons _ _ _ _ (Opd.tmp _ _ rfl) Opds.nil))) ?_
          refine Run.pure (dd := some 13) rfl rfl (op_assign rfl (Opd.tmp _ _ rfl)) ?_
          refine Run.nil (FinR.mk ?_)
          refine nK ?_
          refine s_reg rfl ?_
          refine Run.pure (dd := some 50) rfl rfl (op_move rfl (Opd.tmp _ _ rfl)) ?_
          refine Run.pure (dd := some 51) rfl rfl (op_len_sl rfl (Opd.tmp _ _ rfl)) ?_
          refine Run.pure (dd := some 52) rfl rfl (op_move rfl (Opd.tmp _ _ rfl)) ?_
          refine Run.pure (dd := some 53) rfl rfl (op_len_fz rfl (by first | exact Opd.tmp _ _ rfl | exact Opd.nil _ _ (Opd.tmp _ _ rfl)) (by first | exact List.length_map _ | rfl)) ?_
          refine Run.pure (dd := some 54) rfl rfl (op_add rfl (Opd.tmp _ _ rfl) (Opd.tmp _ _ rfl) tI) ?_
          refine Run.pure (dd := some 55) rfl rfl (op_gtr rfl (Opd.tmp _ _ rfl) (Opd.const _)) ?_
          refine Run.nil (FinR.mk ?_)
          refine nK ?_
          refine n_cond _ rfl (fun hb => ?_) (fun hb => ?_)
          · rw [if_pos (by simp at hb; omega)]
            refine nK ?_
            refine s_reg rfl ?_
            refine Run.pure (dd := some 6) rfl rfl (op_assign rfl (Opd.const _)) ?_
            refine Run.pure (dd := some 7) rfl rfl (op_assign rfl (Opd.const _)) ?_
            refine Run.nil (FinR.mk ?_)
            refine nK ?_
            refine Next.weakS [] [] (by rfl) (keeps0 hC _) (G' := [(6, .fz (VRt [])), (7, IV .i64 4)]) (H' := []) (by repeat (first | exact trivial | refine ⟨⟨_, rfl, .inl ⟨rfl, rfl⟩⟩, ?_⟩ | refine ⟨⟨_, rfl, .inl ⟨slEq rfl tN, rfl⟩⟩, ?_⟩ | refine ⟨⟨_, rfl, .inl ⟨ivEq tX, rfl⟩⟩, ?_⟩ | refine ⟨⟨_, rfl, .inr ⟨_, rfl, tW⟩⟩, ?_⟩)) trivial rfl ?_
            (first | exact s_o1 hC rfl tV | exact s_o2 hC rfl tV tV | exact s_o3 hC rfl tV tV tV | exact s_o4 hC rfl tV tV tV tV | exact s_out0 hC rfl | exact s_outO hC rfl rfl rfl)
          · have hsum : out.length + rs.length ≤ 2000 := by simp at hb; omega
            rw [if_neg (by omega)]
            refine nK ?_
            refine s_reg rfl ?_
            refine Run.pure (dd := some 56) rfl rfl (op_move rfl (Opd.tmp _ _ rfl)) ?_
            refine Run.pure (dd := some 57) rfl rfl (op_len_fz rfl (by first | exact Opd.tmp _ _ rfl | exact Opd.nil _ _ (Opd.tmp _ _ rfl)) (by first | exact List.length_map _ | rfl)) ?_
            refine Run.pure (dd := some 58) rfl rfl (op_move rfl (Opd.const _)) ?_
            refine Run.nil (FinR.mk ?_)
            refine nK ?_
            refine n_loop (ι := Nat) (fun i => ([(13, .sl 0 7 0 (insAll (rs.take i) out).length), (56, .fz (VRt rs)), (57, IV .i64 rs.length), (58, IV .i64 i)], [(0, ORts (insAll (rs.take i) out))], 1)) (fun i => i ≤ rs.length) (fun i => rs.length - i) 0 (Nat.zero_le _) ?_ ?_
            · refine Next.weakS [13] [] (by rfl) (by first | exact keeps0 hC _ | exact keepsN hC _ rfl) (by repeat (first | exact trivial | refine ⟨⟨_, rfl, .inl ⟨rfl, rfl⟩⟩, ?_⟩ | refine ⟨⟨_, rfl, .inl ⟨slEq rfl tN, rfl⟩⟩, ?_⟩ | refine ⟨⟨_, rfl, .inl ⟨ivEq tX, rfl⟩⟩, ?_⟩)) (by repeat (first | exact trivial | refine ⟨ent_same rfl rfl rfl tL, ?_⟩ | refine ⟨ent_same rfl rfl (rfEq rfl tU) tL, ?_⟩ | refine ⟨ent_same rfl rfl (flEq rfl (by first | (simp; done) | (simp; omega) | (simp [encHo, encRt, encP]; done) | simp [maxC, minC])) trivial, ?_⟩)) rfl (rel_intro)
            · intro i hi K hK
              have hla := insAll_len (rs.take i) out
              rw [List.length_take, Nat.min_eq_left hi] at hla
              have hasc := hkp i
              refine nK ?_
              refine s_reg rfl ?_
              refine Run.pure (dd := some 59) rfl rfl (op_lss rfl (Opd.tmp _ _ rfl) (Opd.tmp _ _ rfl)) ?_
              refine Run.nil (FinR.mk ?_)
              refine nK ?_
              refine n_cond _ rfl (fun hb => ?_) (fun hb => ?_)
              · have hlt : i < rs.length := by simp at hb; omega
                have hr1 := row_at' encRt rs i hlt
                have hK1 := hK (i + 1) (by omega) (by omega)
                rw [insAll_take hlt] at hK1
                have lx := ckrt_len (f1 _ (List.getElem_mem hlt)).1
                generalize insAll (rs.take i) out = o at *
                generalize rs[i] = x at *
                have hins := insert_c o x (by omega) hasc lx
                rw [← ins_len x] at hins
                refine nK ?_
                refine s_reg rfl ?_
                refine Run.pure (dd := some 60) rfl rfl (op_idx_fz _ rfl (Opd.tmp _ _ rfl) (Opd.tmp _ _ rfl) tF) ?_
                refine Run.pure (dd := some 61) rfl rfl (op_loadw_fz rfl (Opd.tmp _ _ rfl) rfl) ?_
                refine Run.eff (dd := some 15) rfl rfl (op_alloc rfl rfl rfl rfl) ?_
                refine Run.eff (dd := none) rfl rfl (op_store_flat rfl (Opd.tmp _ _ rfl) (Opd.tmp _ _ rfl) tC rfl rfl (by first | rfl | assumption) tS) ?_
                refine Run.nil (FinR.mk ?_)
                refine nK ?_
                refine s_reg rfl ?_
                refine Run.pure (dd := some 62) rfl rfl (op_move rfl (Opd.tmp _ _ rfl)) ?_
                refine Run.load (dd := some 63) rfl rfl (op_loadw_flat rfl (Opd.tmp _ _ rfl) tH rfl) ?_
                refine Run.eff (dd := some 64) rfl rfl (op_call (n := 1) (n' := 2) [0] (fun _ => hins) rfl (Opd.func _) (Opds.cons _ _ _ _ (Opd.tmp _ _ rfl) (Opds.cons _ _ _ _ (Opd.tmp _ _ rfl) Opds.nil)) rfl rfl (Lent.of rfl rfl (by repeat (first | exact trivial | refine ⟨⟨rfl, rfl, rfl, tL⟩, ?_⟩)) rfl) rfl rfl rfl rfl rfl) ?_
                refine Run.pure (dd := some 13) rfl rfl (op_assign rfl (Opd.tmp _ _ rfl)) ?_
                refine Run.nil (FinR.mk ?_)
                refine nK ?_
                refine s_reg rfl ?_
                refine Run.pure (dd := some 65) rfl rfl (op_add rfl (Opd.tmp _ _ rfl) (Opd.const _) tI) ?_
                refine Run.pure (dd := some 58) rfl rfl (op_move rfl (Opd.tmp _ _ rfl)) ?_
                refine Run.nil (FinR.mk ?_)
                refine nK ?_
                refine Next.weakS [13] [] (by rfl) (by first | exact keeps0 hC _ | exact keepsN hC _ rfl) (by repeat (first | exact trivial | refine ⟨⟨_, rfl, .inl ⟨rfl, rfl⟩⟩, ?_⟩ | refine ⟨⟨_, rfl, .inl ⟨slEq rfl tN, rfl⟩⟩, ?_⟩ | refine ⟨⟨_, rfl, .inl ⟨ivEq tX, rfl⟩⟩, ?_⟩)) (by repeat (first | exact trivial | refine ⟨ent_same rfl rfl rfl tL, ?_⟩ | refine ⟨ent_same rfl rfl (rfEq rfl tU) tL, ?_⟩ | refine ⟨ent_same rfl rfl (flEq rfl (by first | (simp; done) | (simp; omega) | (simp [encHo, encRt, encP]; done) | simp [maxC, minC])) trivial, ?_⟩)) rfl (hK1)
              · have hie : i = rs.length := by simp at hb; omega
                subst hie
                rw [List.take_length] at *
                refine nK ?_
                refine s_reg rfl ?_
                refine Run.pure (dd := some 66) rfl rfl (op_move rfl (Opd.tmp _ _ rfl)) ?_
                refine Run.pure (dd := some 6) rfl rfl (op_assign rfl (Opd.tmp _ _ rfl)) ?_
                refine Run.pure (dd := some 7) rfl rfl (op_assign rfl (Opd.const _)) ?_
                refine Run.nil (FinR.mk ?_)
                refine nK ?_
                refine Next.weakS [] [6] (by rfl) (keeps0 hC _) (G' := [(6, .fz (VRt (insAll rs out))), (7, IV .i64 0)]) (H' := []) (by repeat (first | exact trivial | refine ⟨⟨_, rfl, .inl ⟨rfl, rfl⟩⟩, ?_⟩ | refine ⟨⟨_, rfl, .inl ⟨slEq rfl tN, rfl⟩⟩, ?_⟩ | refine ⟨⟨_, rfl, .inl ⟨ivEq tX, rfl⟩⟩, ?_⟩ | refine ⟨⟨_, rfl, .inr ⟨_, rfl, tW⟩⟩, ?_⟩)) trivial rfl ?_
                (first | exact s_o1 hC rfl tV | exact s_o2 hC rfl tV tV | exact s_o3 hC rfl tV tV tV | exact s_o4 hC rfl tV tV tV tV | exact s_out0 hC rfl | exact s_outO hC rfl rfl rfl)
end Go.Proofs.Ytinddhlmgiahiaa
/- The library's sort and compaction make the reference's list of prefixes. No program in sight. -/
namespace Go.Pl
open Go Go.RT Go.Sort Go.Shelf Go.Proofs
set_option linter.all false
instance : Inhabited Pfx := ⟨⟨0, 0⟩⟩
def vPf (p : Pfx) : List Value := [.int .u32 p.addr, .int .i64 p.len]
instance (p q : Pfx) : Decidable (ltPf p q) := by unfold ltPf; infer_instance
theorem ltPf_iff (p q : Pfx) : ltOf cmpP p q = decide (ltPf p q) := by
  unfold ltOf; rw [Bool.eq_iff_iff, decide_eq_true_iff, decide_eq_true_iff, cmpP_neg]
theorem swo_pf : Go.Sort.SWO (ltOf cmpP) where
  irrefl x := by rw [ltPf_iff]; simp only [decide_eq_false_iff_not]; exact fun k => k.irr
  trans x y z h1 h2 := by rw [ltPf_iff] at *; simp only [decide_eq_true_eq] at *; exact h1.trans h2
  ntrans x y z h1 h2 := by rw [ltPf_iff] at *; simp only [decide_eq_false_iff_not] at *; unfold ltPf at *; omega
def srtP (l : List Pfx) : List Pfx := sortBy cmpP l
theorem srtP_len (l : List Pfx) : (srtP l).length = l.length := (sortBy_spec cmpP swo_pf l).2.1
def eqPf (p q : Pfx) : Bool := decide (p = q)
def lePf (a b : Pfx) : Prop := a = b ∨ ltPf a b
theorem ddP : ∀ (l : List Pfx) (p : Pfx), (p :: l).Pairwise lePf → ascP (p :: ddF eqPf p l) ∧ ∀ x, x ∈ p :: ddF eqPf p l ↔ x ∈ p :: l
  | [], p, _ => by simp [ddF]
  | y :: l, p, h => by
    obtain ⟨h1, h2⟩ := List.pairwise_cons.1 h
    obtain ⟨i1, i2⟩ := ddP l y h2
    simp only [ddF]
    by_cases e : y = p
    · subst e
      rw [show eqPf y y = true by simp [eqPf], cond_true]
      refine ⟨i1, fun x => ?_⟩
      rw [i2]; simp
    · rw [show eqPf y p = false by simp [eqPf, e], cond_false]
      refine ⟨List.pairwise_cons.2 ⟨fun z hz => ?_, i1⟩, fun x => ?_⟩
      · have hy : ltPf p y := (h1 y (List.mem_cons_self ..)).resolve_left fun k => e k.symm
        rcases List.mem_cons.1 ((i2 z).1 hz) with rfl | hz'
        · exact hy
        · rcases (List.pairwise_cons.1 h2).1 z hz' with rfl | k
          · exact hy
          · exact hy.trans k
      · rw [List.mem_cons, i2, List.mem_cons, List.mem_cons, List.mem_cons]
theorem srt_comp (l : List Pfx) : compL eqPf (srtP l) = sortPf l := by
  obtain ⟨h1, h2, h3⟩ := sortBy_spec cmpP swo_pf l
  have hp : (srtP l).Pairwise lePf := by
    rw [List.pairwise_iff_getElem]
    intro i j hi hj hij
    have := h3 i j _ _ hij (List.getElem?_eq_getElem hi) (List.getElem?_eq_getElem hj)
    rw [cmpP_neg] at this
    rcases pf_tri (srtP l)[i] (srtP l)[j] with k | k | k
    · exact .inr k
    · exact .inl k
    · exact absurd k this
  have hm : ∀ x, x ∈ srtP l ↔ x ∈ l := fun x => h1.mem_iff
  generalize srtP l = s at hp hm
  cases s with
  | nil => exact sortPf_uniq List.Pairwise.nil hm
  | cons p t =>
    obtain ⟨k1, k2⟩ := ddP t p hp
    exact sortPf_uniq k1 fun x => (k2 x).trans (hm x)
end Go.Pl
/- Maps of routes by prefix; steps of the loops. No program in sight. -/
namespace Go.Pl
open Go Go.RT
set_option linter.all false
def rtM (s : List Rte) : List (Pfx × Rte) := s.foldl (fun m x => mput m x.pf x) []
theorem rtM_take {l : List Rte} {i : Nat} (h : i < l.length) : rtM (l.take (i + 1)) = mput (rtM (l.take i)) l[i].pf l[i] := by
  unfold rtM
  rw [List.take_succ_eq_append_getElem h, List.foldl_append]; rfl
theorem rtM_ok : ∀ (s : List Rte) (m : List (Pfx × Rte)), (∀ x ∈ s, okRt x) → (m.map (·.1)).Nodup → (∀ p ∈ m, p.1.ok) →
    ((s.foldl (fun m x => mput m x.pf x) m).map (·.1)).Nodup ∧ ∀ p ∈ s.foldl (fun m x => mput m x.pf x) m, p.1.ok
  | [], m, _, h1, h2 => ⟨h1, h2⟩
  | x :: s, m, ho, h1, h2 => by
    rw [List.foldl_cons]
    refine rtM_ok s _ (fun y hy => ho y (List.mem_cons_of_mem _ hy)) (mput_nodup h1) fun p hp => ?_
    rcases mput_keys m _ _ p hp with e | e
    · rw [e]; exact (ho x (List.mem_cons_self ..)).1
    · exact h2 p e
theorem rtM_le : ∀ (s : List Rte) (m : List (Pfx × Rte)), (s.foldl (fun m x => mput m x.pf x) m).length ≤ m.length + s.length
  | [], m => by simp
  | x :: s, m => by
    rw [List.foldl_cons]
    have h1 := rtM_le s (mput m x.pf x)
    have h2 := mput_len m x.pf x
    simp only [List.length_cons]; omega
theorem rtM_vals : ∀ (s : List Rte) (m : List (Pfx × Rte)) (Q : Rte → Prop), (∀ x ∈ s, Q x) → (∀ p ∈ m, Q p.2) → ∀ p ∈ s.foldl (fun m x => mput m x.pf x) m, Q p.2
  | [], m, Q, _, h => h
  | x :: s, m, Q, hs, h => by
    rw [List.foldl_cons]
    refine rtM_vals s _ Q (fun y hy => hs y (List.mem_cons_of_mem _ hy)) fun p hp => ?_
    have : ∀ (m : List (Pfx × Rte)) (k : Pfx) (v : Rte), p ∈ mput m k v → p.2 = v ∨ p ∈ m := by
      intro m k v
      induction m with
      | nil => intro h; simp [mput] at h; exact .inl (by rw [h])
      | cons q r ih =>
        intro h
        simp only [mput] at h
        split at h
        · rcases List.mem_cons.1 h with e | e
          · exact .inl (by rw [e])
          · exact .inr (List.mem_cons_of_mem _ e)
        · rcases List.mem_cons.1 h with e | e
          · exact .inr (by rw [e]; exact List.mem_cons_self ..)
          · exact (ih e).imp id (List.mem_cons_of_mem _)
    rcases this m _ _ hp with e | e
    · rw [e]; exact hs x (List.mem_cons_self ..)
    · exact h p e
theorem mput_has : ∀ {m : List (Pfx × Rte)} {k : Pfx} {v : Rte}, (∃ p ∈ m, p.1 = k) → (mput m k v).length = m.length
  | [], k, v, ⟨p, hp, _⟩ => by simp at hp
  | q :: r, k, v, ⟨p, hp, e⟩ => by
    simp only [mput]
    by_cases c : q.1 = k
    · rw [if_pos c]; rfl
    · rw [if_neg c, List.length_cons, List.length_cons, mput_has (m := r)]
      rcases List.mem_cons.1 hp with rfl | hp
      · exact absurd e c
      · exact ⟨p, hp, e⟩
theorem rtM_apart : ∀ (s : List Rte) (m : List (Pfx × Rte)), m.length + s.length ≤ (s.foldl (fun m x => mput m x.pf x) m).length → s.foldl (fun m x => mput m x.pf x) m = m ++ s.map (fun x => (x.pf, x)) ∧ s.Pairwise (fun a b => a.pf ≠ b.pf) ∧ ∀ x ∈ s, ∀ p ∈ m, p.1 ≠ x.pf
  | [], m, _ => by simp
  | x :: s, m, h => by
    rw [List.foldl_cons] at h ⊢
    have h1 := rtM_le s (mput m x.pf x)
    have h2 := mput_len m x.pf x
    simp only [List.length_cons] at h
    have hno : ∀ p ∈ m, p.1 ≠ x.pf := fun p hp e => by
      have := mput_has (v := x) ⟨p, hp, e⟩
      omega
    have hnew := mput_new (v := x) hno
    have hl : (mput m x.pf x).length = m.length + 1 := by rw [hnew]; simp
    obtain ⟨k1, k2, k3⟩ := rtM_apart s (mput m x.pf x) (by omega)
    refine ⟨by rw [k1, hnew]; simp, List.pairwise_cons.2 ⟨fun y hy => ?_, k2⟩, fun y hy p hp => ?_⟩
    · exact k3 y hy (x.pf, x) (by rw [hnew]; simp)
    · rcases List.mem_cons.1 hy with rfl | hy
      · exact hno p hp
      · exact k3 y hy p (by rw [hnew]; simp [hp])
theorem rtM_all : ∀ (s : List Rte) (m : List (Pfx × Rte)), s.Pairwise (fun a b => a.pf ≠ b.pf) → (∀ x ∈ s, ∀ p ∈ m, p.1 ≠ x.pf) → (s.foldl (fun m x => mput m x.pf x) m).length = m.length + s.length
  | [], m, _, _ => rfl
  | x :: s, m, h, hm => by
    obtain ⟨h1, h2⟩ := List.pairwise_cons.1 h
    rw [List.foldl_cons, mput_new (v := x) (hm x (List.mem_cons_self ..)), rtM_all s _ h2]
    · simp; omega
    · intro y hy p hp
      rcases List.mem_append.1 hp with hp | hp
      · exact hm y (List.mem_cons_of_mem _ hy) p hp
      · simp at hp; subst hp; exact h1 y hy
def byPf (l : List Rte) : List (Pfx × Rte) := if checkL l ≠ 0 then [] else if (rtM l).length < l.length then [] else rtM l
theorem mget_map (p : Pfx) : ∀ l : List Rte, mget (l.map fun x => (x.pf, x)) p = findR l p
  | [] => rfl
  | x :: l => by
    have := mget_map p l
    simp only [List.map_cons, mget, findR, List.find?_cons] at this ⊢
    by_cases e : x.pf = p
    · simp [e]
    · simp [e]; exact this
theorem byPf_get (l : List Rte) (p : Pfx) : mget (byPf l) p = findR (listF l) p := by
  unfold byPf
  by_cases hc : checkL l ≠ 0
  · rw [if_pos hc]
    have : activeF l = [] := by unfold activeF; rw [if_pos hc]
    unfold listF
    rw [this]
    cases l with
    | nil => rfl
    | cons x l => rw [if_pos (by simp)]; rfl
  rw [if_neg hc]
  have hT := (check_iff l).1 (by simpa using hc)
  by_cases h : (rtM l).length < l.length
  · rw [if_pos h]
    have : (activeF l).length < l.length := by
      refine Nat.lt_of_not_le fun hge => ?_
      have he : activeF l = l := by
        unfold activeF at hge ⊢
        rw [if_neg hc] at hge ⊢
        exact (act_sub l none).eq_of_length_le hge
      have ha := active_asc l
      rw [he] at ha
      have := rtM_all l [] (ha.imp fun {a b} h e => by rw [e] at h; exact h.irr) (fun _ _ p hp => by simp at hp)
      unfold rtM at h
      simp at this; omega
    unfold listF
    rw [if_pos this]; rfl
  · rw [if_neg h]
    obtain ⟨k1, k2, _⟩ := rtM_apart l [] (by unfold rtM at h; simp; omega)
    have ha : ascPf l := by
      have := hT.asc.and k2
      exact this.imp fun {a b} h => h.1.resolve_right fun k => h.2 k.1
    rw [(ActOk.mk hT ha).list]
    unfold rtM
    rw [k1, List.nil_append, mget_map]
theorem chg_cond (x y : Option Rte) (z : Rte) : (decide (x.isSome ≠ y.isSome) || (x.isSome && !decide (x.getD z = y.getD z))) = decide (x ≠ y) := by
  cases x <;> cases y <;> simp
def chgT (f : Pfx → Bool) (l : List Rte) : List Pfx := (l.map (·.pf)).filter f
theorem chgT_take (f : Pfx → Bool) {l : List Rte} {i : Nat} (h : i < l.length) : chgT f (l.take (i + 1)) = chgT f (l.take i) ++ if f l[i].pf = true then [l[i].pf] else [] := by
  unfold chgT
  rw [List.take_succ_eq_append_getElem h, List.map_append, List.filter_append]
  by_cases c : f l[i].pf = true
  · rw [if_pos c]; simp [c]
  · rw [if_neg c]; simp [c]
theorem chgT_len (f : Pfx → Bool) (l : List Rte) : (chgT f l).length ≤ l.length := by
  unfold chgT
  exact Nat.le_trans (List.length_filter_le _ _) (by simp)
/-- the reference's -/
def refT (f : Rte → Bool) (l : List Rte) : List Pfx := (l.filter f).map (·.pf)
theorem refT_take (f : Rte → Bool) {l : List Rte} {i : Nat} (h : i < l.length) : refT f (l.take (i + 1)) = refT f (l.take i) ++ if f l[i] = true then [l[i].pf] else [] := by
  unfold refT
  rw [List.take_succ_eq_append_getElem h, List.filter_append, List.map_append]
  by_cases c : f l[i] = true
  · rw [if_pos c]; simp [c]
  · rw [if_neg c]; simp [c]
theorem refT_len (f : Rte → Bool) (l : List Rte) : (refT f l).length ≤ l.length := by
  unfold refT
  rw [List.length_map]; exact List.length_filter_le _ _
/-- the reference's insertion, step by step -/
theorem insPf_step (p x : Pfx) (d : Bool) (t : List Pfx) : insPf p d (x :: t) = (if (decide (cmpP p x ≤ 0) && !d) = true then [p] else []) ++ ((if cmpP p x ≠ 0 then [x] else []) ++ insPf p (d || decide (cmpP p x ≤ 0) && !d) t) := rfl
theorem insPf_len (p : Pfx) : ∀ (l : List Pfx) (d : Bool), (insPf p d l).length ≤ l.length + (if d = true then 0 else 1)
  | [], d => by cases d <;> simp [insPf]
  | x :: t, d => by
    rw [insPf_step, List.length_append, List.length_append]
    have h := insPf_len p t (d || decide (cmpP p x ≤ 0) && !d)
    have h2 : (if cmpP p x ≠ 0 then [x] else []).length ≤ 1 := by split <;> simp
    generalize hb : (decide (cmpP p x ≤ 0) && !d) = b at *
    have hdb : d = true → b = false := fun e => by subst e; rw [← hb]; simp
    simp only [List.length_cons]
    cases d <;> cases b <;> simp at h hdb ⊢ <;> simp at h2 <;> omega
@[simp] theorem insAll_nil (o : List Rte) : insAll [] o = o := rfl
@[simp] theorem sortPf_nil : sortPf [] = [] := rfl
theorem sort_take {l : List Pfx} {i : Nat} (h : i < l.length) : sortPf (l.take (i + 1)) = insPf l[i] false (sortPf (l.take i)) := by
  unfold sortPf
  rw [List.take_succ_eq_append_getElem h, List.foldl_append]; rfl
theorem sortPf_len (l : List Pfx) : (sortPf l).length ≤ l.length := by
  have h : ∀ i, i ≤ l.length → (sortPf (l.take i)).length ≤ i := by
    intro i
    induction i with
    | zero => intro _; simp [sortPf]
    | succ i ih =>
      intro hi
      rw [sort_take (by omega)]
      have := insPf_len l[i] (sortPf (l.take i)) false
      have := ih (by omega)
      simp at *; omega
  have := h l.length (Nat.le_refl _)
  rwa [List.take_length] at this
end Go.Pl
namespace Go.Proofs.Ytinddhlmgiahiaa
open Go Go.RT Go.Proofs Go.Pl
set_option linter.all false
set_option maxRecDepth 20000
abbrev evRt (r : Rte) : FV := .agg (encRt r)
theorem bypf_c (l : List Rte) (ho : ∀ x ∈ l, okRt x) (hh : ∀ x ∈ l, lenOk x.hs.length) (hn : l.length ≤ 4000) : Meets Try.prog 42 ([VRt l].map PV.fz) 0 [] (.mp 0) [(0, OMap ekP evRt (byPf l))] 1 := by
  have kc := ckl_c l ho hh (by unfold lenOk; omega)
  unfold byPf
  refine Meets.intro Try.func42 rfl (Nat.le_of_ble_eq_true rfl) fun C hC => ?_
  simp only [List.map, argEnv, Nat.reduceAdd]
  refine nK ?_
  refine s_reg rfl ?_
  refine Run.pure (dd := some 2) rfl rfl (op_assign rfl (Opd.const _)) ?_
  refine Run.nil (FinR.mk ?_)
  refine nK ?_
  refine s_reg rfl ?_
  refine Run.eff (dd := some 6) rfl rfl (op_makeMap rfl) ?_
  refine Run.pure (dd := some 3) rfl rfl (op_assign rfl (Opd.tmp _ _ rfl)) ?_
  refine Run.nil (FinR.mk ?_)
  refine nK ?_
  refine s_reg rfl ?_
  refine Run.pure (dd := some 7) rfl rfl (op_move rfl (Opd.tmp _ _ rfl)) ?_
  refine Run.pure (dd := some 8) rfl rfl (op_call_pure (fun _ => kc) rfl (Opd.func _) (Opds.cons _ _ _ _ (Opd.tmp _ _ rfl) Opds.nil)) ?_
  refine Run.pure (dd := some 9) rfl rfl (op_neq rfl (Opd.tmp _ _ rfl) (Opd.const _)) ?_
  refine Run.nil (FinR.mk ?_)
  refine nK ?_
  refine n_cond _ rfl (fun hb => ?_) (fun hb => ?_)
  · rw [if_pos (by simpa using hb)]
    refine nK ?_
    refine s_reg rfl ?_
    refine Run.pure (dd := some 10) rfl rfl (op_move rfl (Opd.tmp _ _ rfl)) ?_
    refine Run.pure (dd := some 2) rfl rfl (op_assign rfl (Opd.tmp _ _ rfl)) ?_
    refine Run.nil (FinR.mk ?_)
    refine nK ?_
    refine Next.weakS [2] [] (by rfl) (keeps0 hC _) (G' := [(2, .mp 0)]) (H' := [(0, OMap ekP evRt [])]) (by repeat (first | exact trivial | refine ⟨⟨_, rfl, .inl ⟨rfl, rfl⟩⟩, ?_⟩ | refine ⟨⟨_, rfl, .inl ⟨slEq rfl tN, rfl⟩⟩, ?_⟩ | refine ⟨⟨_, rfl, .inl ⟨ivEq tX, rfl⟩⟩, ?_⟩)) (by repeat (first | exact trivial | refine ⟨ent_same rfl rfl rfl tL, ?_⟩ | refine ⟨ent_same rfl rfl (rfEq rfl tU) tL, ?_⟩ | refine ⟨ent_same rfl rfl (flEq rfl (by first | (simp; done) | (simp; omega) | (simp [encHo, encRt, encP]; done) | simp [maxC, minC])) trivial, ?_⟩)) rfl ?_
    exact n_out1 rfl (by rfl) rfl rfl
  · rw [if_neg (by simpa using hb)]
    refine nK ?_
    refine s_reg rfl ?_
    refine Run.pure (dd := some 11) rfl rfl (op_move rfl (Opd.tmp _ _ rfl)) ?_
    refine Run.pure (dd := some 12) rfl rfl (op_len_fz rfl (by first | exact Opd.tmp _ _ rfl | exact Opd.nil _ _ (Opd.tmp _ _ rfl)) (by first | exact List.length_map _ | rfl)) ?_
    refine Run.pure (dd := some 13) rfl rfl (op_move rfl (Opd.const _)) ?_
    refine Run.nil (FinR.mk ?_)
    refine nK ?_
    refine n_loop (ι := Nat) (fun i => ([(0, .fz (VRt l)), (3, .mp 0), (11, .fz (VRt l)), (12, IV .i64 l.length), (13, IV .i64 i)], [(0, OMap ekP evRt (rtM (l.take i)))], 1)) (fun i => i ≤ l.length) (fun i => l.length - i) 0 (Nat.zero_le _) ?_ ?_
    · refine Next.weakS [3] [] (by rfl) (by first | exact keeps0 hC _ | exact keepsN hC _ rfl) (by repeat (first | exact trivial | refine ⟨⟨_, rfl, .inl ⟨rfl, rfl⟩⟩, ?_⟩ | refine ⟨⟨_, rfl, .inl ⟨slEq rfl tN, rfl⟩⟩, ?_⟩ | refine ⟨⟨_, rfl, .inl ⟨ivEq tX, rfl⟩⟩, ?_⟩)) (by repeat (first | exact trivial | refine ⟨ent_same rfl rfl rfl tL, ?_⟩ | refine ⟨ent_same rfl rfl (rfEq rfl tU) tL, ?_⟩ | refine ⟨ent_same rfl rfl (flEq rfl (by first | (simp; done) | (simp; omega) | (simp [encHo, encRt, encP]; done) | simp [maxC, minC])) trivial, ?_⟩)) rfl (rel_intro)
    · intro i hi K hK
      refine nK ?_
      refine s_reg rfl ?_
      refine Run.pure (dd := some 14) rfl rfl (op_lss rfl (Opd.tmp _ _ rfl) (Opd.tmp _ _ rfl)) ?_
      refine Run.nil (FinR.mk ?_)
      refine nK ?_
      refine n_cond _ rfl (fun hb => ?_) (fun hb => ?_)
      · have hlt : i < l.length := by simp at hb; omega
        have hr1 := row_at' encRt l i hlt
        have hK1 := hK (i + 1) (by omega) (by omega)
        rw [rtM_take hlt] at hK1
        have okx := ho _ (List.getElem_mem hlt)
        obtain ⟨kn, kk⟩ := rtM_ok (l.take i) [] (fun y hy => ho y (List.mem_of_mem_take hy)) (by simp) (fun p hp => by simp at hp)
        change ((rtM (l.take i)).map (·.1)).Nodup at kn
        change ∀ p ∈ rtM (l.take i), p.1.ok at kk
        generalize rtM (l.take i) = M at *
        generalize l[i] = x at *
        refine nK ?_
        refine s_reg rfl ?_
        refine Run.pure (dd := some 15) rfl rfl (op_idx_fz _ rfl (Opd.tmp _ _ rfl) (Opd.tmp _ _ rfl) tF) ?_
        refine Run.pure (dd := some 16) rfl rfl (op_loadw_fz rfl (Opd.tmp _ _ rfl) rfl) ?_
        refine Run.eff (dd := some 5) rfl rfl (op_alloc rfl rfl rfl rfl) ?_
        refine Run.eff (dd := none) rfl rfl (op_store_flat rfl (Opd.tmp _ _ rfl) (Opd.tmp _ _ rfl) tC rfl rfl (by first | rfl | assumption) tS) ?_
        refine Run.nil (FinR.mk ?_)
        refine nK ?_
        refine s_reg rfl ?_
        refine Run.pure (dd := some 17) rfl rfl (op_move rfl (Opd.tmp _ _ rfl)) ?_
        refine Run.pure (dd := some 18) rfl rfl (op_fld_ptr (by decide) rfl (Opd.tmp _ _ rfl)) ?_
        refine Run.load (dd := some 19) rfl rfl (op_loadn_flat rfl (Opd.tmp _ _ rfl) tH tR tR) ?_
        refine Run.load (dd := some 20) rfl rfl (op_loadw_flat rfl (Opd.tmp _ _ rfl) tH rfl) ?_
        refine Run.eff (dd := none) rfl rfl (op_mapPut (κ := Pfx) (ν := Rte) (ek := ekP) (ev := evRt) (l := M) (k := x.pf) (v := x) (.inl rfl) (Opd.tmp _ _ rfl) (Opd.tmp _ _ rfl) (Opd.tmp _ _ rfl) rfl kn kk okx.1) ?_
        refine Run.nil (FinR.mk ?_)
        refine nK ?_
        refine s_reg rfl ?_
        refine Run.pure (dd := some 21) rfl rfl (op_add rfl (Opd.tmp _ _ rfl) (Opd.const _) tI) ?_
        refine Run.pure (dd := some 13) rfl rfl (op_move rfl (Opd.tmp _ _ rfl)) ?_
        refine Run.nil (FinR.mk ?_)
        refine nK ?_
        refine Next.weakS [3] [] (by rfl) (by first | exact keeps0 hC _ | exact keepsN hC _ rfl) (by repeat (first | exact trivial | refine ⟨⟨_, rfl, .inl ⟨rfl, rfl⟩⟩, ?_⟩ | refine ⟨⟨_, rfl, .inl ⟨slEq rfl tN, rfl⟩⟩, ?_⟩ | refine ⟨⟨_, rfl, .inl ⟨ivEq tX, rfl⟩⟩, ?_⟩)) (by repeat (first | exact trivial | refine ⟨ent_same rfl rfl rfl tL, ?_⟩ | refine ⟨ent_same rfl rfl (rfEq rfl tU) tL, ?_⟩ | refine ⟨ent_same rfl rfl (flEq rfl (by first | (simp; done) | (simp; omega) | (simp [encHo, encRt, encP]; done) | simp [maxC, minC])) trivial, ?_⟩)) rfl (hK1)
      · have hie : i = l.length := by simp at hb; omega
        rw [hie, List.take_length]
        have hml : (rtM l).length ≤ l.length := by have := rtM_le l []; simpa [rtM] using this
        refine nK ?_
        refine s_reg rfl ?_
        refine Run.pure (dd := some 22) rfl rfl (op_move rfl (Opd.tmp _ _ rfl)) ?_
        refine Run.load (dd := some 23) rfl rfl (op_maplen (κ := Pfx) (ν := Rte) (ek := ekP) (ev := evRt) (l := rtM l) rfl (Opd.tmp _ _ rfl) rfl) ?_
        refine Run.pure (dd := some 24) rfl rfl (op_move rfl (Opd.tmp _ _ rfl)) ?_
        refine Run.pure (dd := some 25) rfl rfl (op_len_fz rfl (by first | exact Opd.tmp _ _ rfl | exact Opd.nil _ _ (Opd.tmp _ _ rfl)) (by first | exact List.length_map _ | rfl)) ?_
        refine Run.pure (dd := some 26) rfl rfl (op_lss rfl (Opd.tmp _ _ rfl) (Opd.tmp _ _ rfl)) ?_
        refine Run.nil (FinR.mk ?_)
        refine nK ?_
        refine n_cond _ rfl (fun hb => ?_) (fun hb => ?_)
        · rw [if_pos (by simp at hb; omega)]
          refine nK ?_
          refine s_reg rfl ?_
          refine Run.pure (dd := some 27) rfl rfl (op_move rfl (Opd.tmp _ _ rfl)) ?_
          refine Run.eff (dd := none) rfl rfl (op_mapclear (κ := Pfx) (ν := Rte) (ek := ekP) (ev := evRt) (l := rtM l) rfl (Opd.tmp _ _ rfl) rfl) ?_
          refine Run.nil (FinR.mk ?_)
          refine nK ?_
          refine s_reg rfl ?_
          refine Run.pure (dd := some 28) rfl rfl (op_move rfl (Opd.tmp _ _ rfl)) ?_
          refine Run.pure (dd := some 2) rfl rfl (op_assign rfl (Opd.tmp _ _ rfl)) ?_
          refine Run.nil (FinR.mk ?_)
          refine nK ?_
          refine Next.weakS [2] [] (by rfl) (keeps0 hC _) (G' := [(2, .mp 0)]) (H' := [(0, OMap ekP evRt [])]) (by repeat (first | exact trivial | refine ⟨⟨_, rfl, .inl ⟨rfl, rfl⟩⟩, ?_⟩ | refine ⟨⟨_, rfl, .inl ⟨slEq rfl tN, rfl⟩⟩, ?_⟩ | refine ⟨⟨_, rfl, .inl ⟨ivEq tX, rfl⟩⟩, ?_⟩)) (by repeat (first | exact trivial | refine ⟨ent_same rfl rfl rfl tL, ?_⟩ | refine ⟨ent_same rfl rfl (rfEq rfl tU) tL, ?_⟩ | refine ⟨ent_same rfl rfl (flEq rfl (by first | (simp; done) | (simp; omega) | (simp [encHo, encRt, encP]; done) | simp [maxC, minC])) trivial, ?_⟩)) rfl ?_
          exact n_out1 rfl (by rfl) rfl rfl
        · rw [if_neg (by simp at hb; omega)]
          refine nK ?_
          refine s_reg rfl ?_
          refine Run.pure (dd := some 28) rfl rfl (op_move rfl (Opd.tmp _ _ rfl)) ?_
          refine Run.pure (dd := some 2) rfl rfl (op_assign rfl (Opd.tmp _ _ rfl)) ?_
          refine Run.nil (FinR.mk ?_)
          refine nK ?_
          refine Next.weakS [2] [] (by rfl) (keeps0 hC _) (G' := [(2, .mp 0)]) (H' := [(0, OMap ekP evRt (rtM l))]) (by repeat (first | exact trivial | refine ⟨⟨_, rfl, .inl ⟨rfl, rfl⟩⟩, ?_⟩ | refine ⟨⟨_, rfl, .inl ⟨slEq rfl tN, rfl⟩⟩, ?_⟩ | refine ⟨⟨_, rfl, .inl ⟨ivEq tX, rfl⟩⟩, ?_⟩)) (by repeat (first | exact trivial | refine ⟨ent_same rfl rfl rfl tL, ?_⟩ | refine ⟨ent_same rfl rfl (rfEq rfl tU) tL, ?_⟩ | refine ⟨ent_same rfl rfl (flEq rfl (by first | (simp; done) | (simp; omega) | (simp [encHo, encRt, encP]; done) | simp [maxC, minC])) trivial, ?_⟩)) rfl ?_
          exact n_out1 rfl (by rfl) rfl rfl
end Go.Proofs.Ytinddhlmgiahiaa
/- The engine, part 44: a nil slice with its capacity told. -/
namespace Go.RT
open Go
set_option linter.all false
variable {G : Env} {H : Hp} {nx : Nat}
theorem Next.adoptC {C : Cx} {N : Nat} {K : Act → World → Prop} (tt sz : Nat) (hl : look G tt = some (.fz (.lit (.slice none 0 0)))) (h : Next C N ((tt, .wc 0 (.sl nx sz 0 0)) :: G) ((nx, some (.flat sz [])) :: H) (nx + 1) K) : Next C N G H nx K := by
  intro a w hR
  obtain ⟨S, m, hm, hsl⟩ := hR.mem
  have hids : ∀ i y, m i = some y → i ≠ nx := fun i y hi => by have := hm.lt hi; omega
  have hle : Le S m w S (setM m nx none) w := ⟨fun _ h => h, fun _ _ => rfl, fun i y hi => by rw [setM_other (hids i y hi)]; exact hi, fun _ _ h => h⟩
  have ex : ∀ id' o' b, hlook ((nx, some (.flat sz [])) :: H) id' = some o' → setM m nx none id' = some (some b) → id' ≠ nx ∧ hlook H id' = some o' ∧ m id' = some (some b) := fun id' o' b h hb => by
    rw [hlook_cons] at h
    by_cases h1 : nx = id'
    · subst h1; rw [setM_self] at hb; cases hb
    · rw [if_neg h1] at h; rw [setM_other (fun e => h1 e.symm)] at hb; exact ⟨fun e => h1 e.symm, h, hb⟩
  refine h a w ⟨hR.defers, hR.size, S, setM m nx none, hm.step hle ⟨rfl, Nat.le_refl _⟩ rfl rfl (fun _ _ => rfl) (Nat.le_refl _) (fun _ _ _ => rfl) (fun _ h => .inl h) (fun id o ho => ?_) (fun id o b ho hb => ?_) (fun i1 i2 o1 o2 b h1 h2 h3 h4 => ?_) hm.stab (fun i hi => ?_) ?_, fun t q hq => ?_⟩
  · rw [hlook_cons] at ho
    by_cases h1 : nx = id
    · rw [if_pos h1] at ho; cases ho; subst h1; exact .inl ⟨setM_self _ _ _, rfl⟩
    · rw [if_neg h1] at ho; exact (hm.objs id o ho).mono hle (fun _ _ => rfl)
  · obtain ⟨_, k1, k2⟩ := ex id o b ho hb; exact hm.blk id o b k1 k2
  · obtain ⟨_, k1, k2⟩ := ex i1 o1 b h1 h3
    obtain ⟨_, k3, k4⟩ := ex i2 o2 b h2 h4
    exact hm.inj i1 i2 o1 o2 b k1 k3 k2 k4
  · rw [setM_other (by omega)]; exact hm.fresh i (by omega)
  · exact hm.nkeep_new hle
  · rw [look_cons] at hq
    by_cases h1 : tt = t
    · rw [if_pos h1] at hq; cases hq; subst h1
      obtain ⟨v, hv, hr⟩ := hsl tt _ hl
      refine ⟨v, hv, ?_⟩
      rw [hr.lit]; exact .wc _ _ _ _ (.sl0 _ _ (setM_self _ _ _))
    · rw [if_neg h1] at hq; exact (hsl t q hq).mono hle

/-- a zero value whose missing slices are read as empty ones -/
theorem zFRep {A : Array Value} {zs : List FV} (h : zOk A.toList zs) (h1 : A.toList.all (·.oneCell') = true) (w : World) (S : Nat → Prop) : FRep w S (.agg A) (.agg zs) := by
  have hl : A.size = zs.length := by simpa using h.len
  refine .agg A zs hl (fun i c f hc hf => ?_) (fun i c hc => ?_)
  · obtain ⟨u, hu, hq⟩ := h.at i f hf
    rw [Array.getElem?_toList, hc] at hu; cases hu
    rcases hq with rfl | ⟨sz, rfl, rfl⟩
    · exact .lit _
    · exact .nil _ _ _
  · exact List.all_eq_true.1 h1 c (Array.mem_toList_iff.2 (Array.mem_of_getElem? hc))
end Go.RT
namespace Go.Proofs.Ytinddhlmgiahiaa
open Go Go.RT Go.Proofs Go.Pl
set_option linter.all false
set_option maxRecDepth 20000
theorem grow_f (n : Nat) (hn : n ≤ 100000) : Meets Try.prog 62 ([.lit (.slice none 0 0), If .i64 n].map PV.fz) 0 [] (.sl 0 7 0 0) [(0, ORts [])] 1 := by
  refine Meets.intro Try.func62 rfl (Nat.le_of_ble_eq_true rfl) fun C hC => ?_
  simp only [List.map, argEnv, Nat.reduceAdd]
  refine Next.adoptC 0 7 rfl ?_
  refine nK ?_
  refine s_reg rfl ?_
  refine Run.pure (dd := some 4) rfl rfl (op_assign rfl (Opd.const _)) ?_
  refine Run.nil (FinR.mk ?_)
  refine nK ?_
  refine s_reg rfl ?_
  refine Run.pure (dd := some 5) rfl rfl (op_move rfl (Opd.tmp _ _ rfl)) ?_
  refine Run.pure (dd := some 6) rfl rfl (op_lss rfl (Opd.tmp _ _ rfl) (Opd.const _)) ?_
  refine Run.nil (FinR.mk ?_)
  refine nK ?_
  refine n_cond _ rfl (fun hb => ?_) (fun hb => ?_)
  · exfalso; simp at hb; omega
  · refine nK ?_
    refine s_reg rfl ?_
    refine Run.pure (dd := some 8) rfl rfl (op_move rfl (Opd.tmp _ _ rfl)) ?_
    refine Run.pure (dd := some 9) rfl rfl (op_move rfl (Opd.tmp _ _ rfl)) ?_
    refine Run.pure (dd := some 10) rfl rfl (op_cap rfl (Opd.tmp _ _ rfl)) ?_
    refine Run.pure (dd := some 11) rfl rfl (op_move rfl (Opd.tmp _ _ rfl)) ?_
    refine Run.pure (dd := some 12) rfl rfl (op_len_sl rfl (Opd.wc _ _ _ (Opd.tmp _ _ rfl))) ?_
    refine Run.pure (dd := some 13) rfl rfl (op_sub rfl (Opd.tmp _ _ rfl) (Opd.tmp _ _ rfl) tI) ?_
    refine Run.pure (dd := some 14) rfl rfl (op_sub rfl (Opd.tmp _ _ rfl) (Opd.tmp _ _ rfl) tI) ?_
    refine Run.pure (dd := some 1) rfl rfl (op_assign rfl (Opd.tmp _ _ rfl)) ?_
    refine Run.nil (FinR.mk ?_)
    refine nK ?_
    refine s_reg rfl ?_
    refine Run.pure (dd := some 15) rfl rfl (op_move rfl (Opd.tmp _ _ rfl)) ?_
    refine Run.pure (dd := some 16) rfl rfl (op_gtr rfl (Opd.tmp _ _ rfl) (Opd.const _)) ?_
    refine Run.nil (FinR.mk ?_)
    refine nK ?_
    refine n_cond _ rfl (fun hb => ?_) (fun hb => ?_)
    · refine nK ?_
      refine s_reg rfl ?_
      refine Run.pure (dd := some 17) rfl rfl (op_move rfl (Opd.tmp _ _ rfl)) ?_
      refine Run.pure (dd := some 18) rfl rfl (op_move rfl (Opd.tmp _ _ rfl)) ?_
      refine Run.pure (dd := some 19) rfl rfl (op_cap rfl (Opd.tmp _ _ rfl)) ?_
      refine Run.pure (dd := some 20) rfl rfl (op_slice_room (h := 0) rfl (Opd.tmp _ _ rfl) (Bnd.yes _ _ _ _ _ (Opd.tmp _ _ rfl) tQ) (by intro _; omega)) ?_
      refine Run.pure (dd := some 21) rfl rfl (op_move rfl (Opd.tmp _ _ rfl)) ?_
      refine Run.eff (dd := some 22) rfl rfl (op_append_zg (k := n) (zs := zCells) rfl (Opd.tmp _ _ rfl) (opdI (Opd.tmp _ _ rfl) (by omega)) rfl rfl rfl rfl rfl (by simp) (by simp at hb; omega) (by simp at hb; omega) (by omega) (by omega)) ?_
      refine Run.pure (dd := some 23) rfl rfl (op_move rfl (Opd.tmp _ _ rfl)) ?_
      refine Run.pure (dd := some 24) rfl rfl (op_len_sl rfl (Opd.wc _ _ _ (Opd.tmp _ _ rfl))) ?_
      refine Run.load (dd := some 25) rfl rfl (op_slice_view (l := 0) (h := 0) rfl (Opd.tmp _ _ rfl) (Bnd.no _) (Bnd.yes _ _ _ _ _ (Opd.tmp _ _ rfl) tQ) (by intro _; refine ⟨rfl, ?_⟩; simp)) ?_
      refine Run.pure (dd := some 0) rfl rfl (op_assign rfl (Opd.tmp _ _ rfl)) ?_
      refine Run.nil (FinR.mk ?_)
      refine nK ?_
      refine s_reg rfl ?_
      refine Run.pure (dd := some 26) rfl rfl (op_move rfl (Opd.tmp _ _ rfl)) ?_
      refine Run.pure (dd := some 4) rfl rfl (op_assign rfl (Opd.tmp _ _ rfl)) ?_
      refine Run.nil (FinR.mk ?_)
      refine nK ?_
      refine Next.trim 1 0 rfl ?_
      refine Next.weakS [4] [] (by rfl) (keeps0 hC _) (G' := [(4, .sl 0 7 0 0)]) (H' := [(0, ORts [])]) (by repeat (first | exact trivial | refine ⟨⟨_, rfl, .inl ⟨rfl, rfl⟩⟩, ?_⟩ | refine ⟨⟨_, rfl, .inl ⟨slEq rfl tN, rfl⟩⟩, ?_⟩ | refine ⟨⟨_, rfl, .inl ⟨ivEq tX, rfl⟩⟩, ?_⟩)) (by repeat (first | exact trivial | refine ⟨ent_same rfl rfl rfl tL, ?_⟩ | refine ⟨ent_same rfl rfl (rfEq rfl tU) tL, ?_⟩ | refine ⟨ent_same rfl rfl (flEq rfl (by first | (simp; done) | (simp; omega) | (simp [encHo, encRt, encP]; done) | simp [maxC, minC])) trivial, ?_⟩)) rfl ?_
      exact n_out1 rfl (by rfl) rfl rfl
    · refine nK ?_
      refine s_reg rfl ?_
      refine Run.pure (dd := some 26) rfl rfl (op_move rfl (Opd.tmp _ _ rfl)) ?_
      refine Run.pure (dd := some 4) rfl rfl (op_assign rfl (Opd.tmp _ _ rfl)) ?_
      refine Run.nil (FinR.mk ?_)
      refine nK ?_
      refine Next.unwc 4 rfl ?_
      refine Next.weakS [4] [] (by rfl) (keeps0 hC _) (G' := [(4, .sl 0 7 0 0)]) (H' := [(0, ORts [])]) (by repeat (first | exact trivial | refine ⟨⟨_, rfl, .inl ⟨rfl, rfl⟩⟩, ?_⟩ | refine ⟨⟨_, rfl, .inl ⟨slEq rfl tN, rfl⟩⟩, ?_⟩ | refine ⟨⟨_, rfl, .inl ⟨ivEq tX, rfl⟩⟩, ?_⟩)) (by repeat (first | exact trivial | refine ⟨ent_same rfl rfl rfl tL, ?_⟩ | refine ⟨ent_same rfl rfl (rfEq rfl tU) tL, ?_⟩ | refine ⟨ent_same rfl rfl (flEq rfl (by first | (simp; done) | (simp; omega) | (simp [encHo, encRt, encP]; done) | simp [maxC, minC])) trivial, ?_⟩)) rfl ?_
      exact n_out1 rfl (by rfl) rfl rfl
theorem fl_take {α : Type} {ls : List (List α)} {i : Nat} (h : i < ls.length) : (ls.take (i + 1)).flatten = (ls.take i).flatten ++ ls[i] := by
  rw [List.take_succ_eq_append_getElem h, List.flatten_append]; simp
theorem fl_le {α : Type} (ls : List (List α)) (i : Nat) : (ls.take i).flatten.length ≤ ls.flatten.length := by
  have := congrArg List.length (congrArg List.flatten (List.take_append_drop i ls))
  rw [List.flatten_append, List.length_append] at this
  omega
abbrev enc1 (l : List Rte) : List FV := [VRt l]
theorem concat_c (ls : List (List Rte)) (hn : ls.flatten.length ≤ 9000) (hl0 : ls.length ≤ 9) : Meets Try.prog 43 ([.vals 1 (ls.map enc1)].map PV.fz) 0 [] (.sl 0 7 0 ls.flatten.length) [(0, ORts ls.flatten)] 1 := by
  have app2 : ∀ (o x : List Rte), (o ++ x).map encRt = o.map encRt ++ x.map encRt := fun o x => by simp
  refine Meets.intro Try.func43 rfl (Nat.le_of_ble_eq_true rfl) fun C hC => ?_
  simp only [List.map, argEnv, Nat.reduceAdd]
  refine nK ?_
  refine s_reg rfl ?_
  refine Run.pure (dd := some 2) rfl rfl (op_assign rfl (Opd.const _)) ?_
  refine Run.nil (FinR.mk ?_)
  refine nK ?_
  refine s_reg rfl ?_
  refine Run.pure (dd := some 3) rfl rfl (op_assign rfl (Opd.const _)) ?_
  refine Run.nil (FinR.mk ?_)
  refine nK ?_
  refine s_reg rfl ?_
  refine Run.pure (dd := some 9) rfl rfl (op_move rfl (Opd.tmp _ _ rfl)) ?_
  refine Run.pure (dd := some 10) rfl rfl (op_len_fz rfl (by first | exact Opd.tmp _ _ rfl | exact Opd.nil _ _ (Opd.tmp _ _ rfl)) (by first | exact List.length_map _ | rfl)) ?_
  refine Run.pure (dd := some 11) rfl rfl (op_move rfl (Opd.const _)) ?_
  refine Run.nil (FinR.mk ?_)
  refine nK ?_
  refine n_loop (ι := Nat) (fun i => ([(0, .fz (.vals 1 (ls.map enc1))), (3, IV .i64 (ls.take i).flatten.length), (9, .fz (.vals 1 (ls.map enc1))), (10, IV .i64 ls.length), (11, IV .i64 i)], [], 0)) (fun i => i ≤ ls.length) (fun i => ls.length - i) 0 (Nat.zero_le _) ?_ ?_
  · refine Next.weak [] [] (by rfl) (keeps0 hC _) (by repeat (first | exact trivial | refine ⟨⟨_, rfl, .inl ⟨rfl, rfl⟩⟩, ?_⟩)) (by repeat (first | exact trivial | refine ⟨ent_same rfl rfl rfl tL, ?_⟩ | refine ⟨ent_same rfl rfl (rfEq rfl tU) tL, ?_⟩ | refine ⟨ent_same rfl rfl (flEq rfl (by first | (simp; done) | (simp; omega) | (simp [encHo, encRt, encP]; done) | simp [maxC, minC])) trivial, ?_⟩)) (fun _ h => by simp at h) rel_intro
  · intro i hi K hK
    have hfl := fl_le ls i
    refine nK ?_
    refine s_reg rfl ?_
    refine Run.pure (dd := some 12) rfl rfl (op_lss rfl (Opd.tmp _ _ rfl) (Opd.tmp _ _ rfl)) ?_
    refine Run.nil (FinR.mk ?_)
    refine nK ?_
    refine n_cond _ rfl (fun hb => ?_) (fun hb => ?_)
    · have hlt : i < ls.length := by simp at hb; omega
      have hr1 := row_at' enc1 ls i hlt
      have hK1 := hK (i + 1) (by omega) (by omega)
      have hf2 := fl_le ls (i + 1)
      rw [fl_take hlt, List.length_append] at hK1 hf2
      generalize (ls.take i).flatten.length = m at *
      generalize ls[i] = x at *
      refine nK ?_
      refine s_reg rfl ?_
      refine Run.pure (dd := some 13) rfl rfl (op_idx_fz _ rfl (Opd.tmp _ _ rfl) (Opd.tmp _ _ rfl) tF) ?_
      refine Run.pure (dd := some 14) rfl rfl (op_load1_fz rfl (Opd.tmp _ _ rfl) rfl) ?_
      refine Run.pure (dd := some 5) rfl rfl (op_assign rfl (Opd.tmp _ _ rfl)) ?_
      refine Run.nil (FinR.mk ?_)
      refine nK ?_
      refine s_reg rfl ?_
      refine Run.pure (dd := some 15) rfl rfl (op_move rfl (Opd.tmp _ _ rfl)) ?_
      refine Run.pure (dd := some 16) rfl rfl (op_move rfl (Opd.tmp _ _ rfl)) ?_
      refine Run.pure (dd := some 17) rfl rfl (op_len_fz rfl (by first | exact Opd.tmp _ _ rfl | exact Opd.nil _ _ (Opd.tmp _ _ rfl)) (by first | exact List.length_map _ | rfl)) ?_
      refine Run.pure (dd := some 18) rfl rfl (op_add rfl (Opd.tmp _ _ rfl) (Opd.tmp _ _ rfl) tI) ?_
      refine Run.pure (dd := some 3) rfl rfl (op_assign rfl (Opd.tmp _ _ rfl)) ?_
      refine Run.nil (FinR.mk ?_)
      refine nK ?_
      refine s_reg rfl ?_
      refine Run.pure (dd := some 19) rfl rfl (op_move rfl (Opd.tmp _ _ rfl)) ?_
      refine Run.pure (dd := some 20) rfl rfl (op_lss rfl (Opd.tmp _ _ rfl) (Opd.const _)) ?_
      refine Run.nil (FinR.mk ?_)
      refine nK ?_
      refine n_cond _ rfl (fun hb => ?_) (fun hb => ?_)
      · exfalso; simp at hb; omega
      · refine nK ?_
        refine s_reg rfl ?_
        refine Run.pure (dd := some 22) rfl rfl (op_add rfl (Opd.tmp _ _ rfl) (Opd.const _) tI) ?_
        refine Run.pure (dd := some 11) rfl rfl (op_move rfl (Opd.tmp _ _ rfl)) ?_
        refine Run.nil (FinR.mk ?_)
        refine nK ?_
        refine Next.weak [] [] (by rfl) (keeps0 hC _) (by repeat (first | exact trivial | refine ⟨⟨_, rfl, .inl ⟨rfl, rfl⟩⟩, ?_⟩)) (by repeat (first | exact trivial | refine ⟨ent_same rfl rfl rfl tL, ?_⟩ | refine ⟨ent_same rfl rfl (rfEq rfl tU) tL, ?_⟩ | refine ⟨ent_same rfl rfl (flEq rfl (by first | (simp; done) | (simp; omega) | (simp [encHo, encRt, encP]; done) | simp [maxC, minC])) trivial, ?_⟩)) (fun _ h => by simp at h) hK1
    · have hie : i = ls.length := by simp at hb; omega
      clear hK
      rw [hie, List.take_length]
      have hg := grow_f ls.flatten.length (by omega)
      refine nK ?_
      refine s_reg rfl ?_
      refine Run.pure (dd := some 23) rfl rfl (op_move rfl (Opd.tmp _ _ rfl)) ?_
      refine Run.eff (dd := some 24) rfl rfl (op_call_fresh (fun _ => hg) rfl (Opd.func _) (Opds.cons _ _ _ _ (Opd.const _) (Opds.cons _ _ _ _ (Opd.tmp _ _ rfl) Opds.nil))) ?_
      refine Run.pure (dd := some 6) rfl rfl (op_assign rfl (Opd.tmp _ _ rfl)) ?_
      refine Run.nil (FinR.mk ?_)
      refine nK ?_
      refine s_reg rfl ?_
      refine Run.pure (dd := some 25) rfl rfl (op_move rfl (Opd.tmp _ _ rfl)) ?_
      refine Run.pure (dd := some 26) rfl rfl (op_len_fz rfl (by first | exact Opd.tmp _ _ rfl | exact Opd.nil _ _ (Opd.tmp _ _ rfl)) (by first | exact List.length_map _ | rfl)) ?_
      refine Run.pure (dd := some 27) rfl rfl (op_move rfl (Opd.const _)) ?_
      refine Run.nil (FinR.mk ?_)
      refine nK ?_
      refine n_loop (ι := Nat) (fun i => ([(6, .sl 0 7 0 (ls.take i).flatten.length), (25, .fz (.vals 1 (ls.map enc1))), (26, IV .i64 ls.length), (27, IV .i64 i)], [(0, ORts (ls.take i).flatten)], 1)) (fun i => i ≤ ls.length) (fun i => ls.length - i) 0 (Nat.zero_le _) ?_ ?_
      · refine Next.weakS [6] [] (by rfl) (by first | exact keeps0 hC _ | exact keepsN hC _ rfl) (by repeat (first | exact trivial | refine ⟨⟨_, rfl, .inl ⟨rfl, rfl⟩⟩, ?_⟩ | refine ⟨⟨_, rfl, .inl ⟨slEq rfl tN, rfl⟩⟩, ?_⟩ | refine ⟨⟨_, rfl, .inl ⟨ivEq tX, rfl⟩⟩, ?_⟩)) (by repeat (first | exact trivial | refine ⟨ent_same rfl rfl rfl tL, ?_⟩ | refine ⟨ent_same rfl rfl (rfEq rfl tU) tL, ?_⟩ | refine ⟨ent_same rfl rfl (flEq rfl (by first | (simp; done) | (simp; omega) | (simp [encHo, encRt, encP]; done) | simp [maxC, minC])) trivial, ?_⟩)) rfl (rel_intro)
      · intro i hi K hK
        have hfl := fl_le ls i
        refine nK ?_
        refine s_reg rfl ?_
        refine Run.pure (dd := some 28) rfl rfl (op_lss rfl (Opd.tmp _ _ rfl) (Opd.tmp _ _ rfl)) ?_
        refine Run.nil (FinR.mk ?_)
        refine nK ?_
        refine n_cond _ rfl (fun hb => ?_) (fun hb => ?_)
        · have hlt : i < ls.length := by simp at hb; omega
          have hr1 := row_at' enc1 ls i hlt
          have hK1 := hK (i + 1) (by omega) (by omega)
          have hf2 := fl_le ls (i + 1)
          unfold ORts at hK1
          rw [fl_take hlt, List.length_append] at hf2
          rw [fl_take hlt, List.length_append, app2] at hK1
          generalize (ls.take i).flatten = o at *
          generalize ls[i] = x at *
          refine nK ?_
          refine s_reg rfl ?_
          refine Run.pure (dd := some 29) rfl rfl (op_idx_fz _ rfl (Opd.tmp _ _ rfl) (Opd.tmp _ _ rfl) tF) ?_
          refine Run.pure (dd := some 30) rfl rfl (op_load1_fz rfl (Opd.tmp _ _ rfl) rfl) ?_
          refine Run.pure (dd := some 8) rfl rfl (op_assign rfl (Opd.tmp _ _ rfl)) ?_
          refine Run.nil (FinR.mk ?_)
          refine nK ?_
          refine s_reg rfl ?_
          refine Run.pure (dd := some 31) rfl rfl (op_move rfl (Opd.tmp _ _ rfl)) ?_
          refine Run.pure (dd := some 32) rfl rfl (op_move rfl (Opd.tmp _ _ rfl)) ?_
          refine Run.eff (dd := some 33) rfl rfl (op_append rfl (Opd.tmp _ _ rfl) (Opd.tmp _ _ rfl) rfl (by simp) rfl rfl tB tB) ?_
          refine Run.pure (dd := some 6) rfl rfl (op_assign rfl (Opd.tmp _ _ rfl)) ?_
          refine Run.nil (FinR.mk ?_)
          refine nK ?_
          refine s_reg rfl ?_
          refine Run.pure (dd := some 34) rfl rfl (op_add rfl (Opd.tmp _ _ rfl) (Opd.const _) tI) ?_
          refine Run.pure (dd := some 27) rfl rfl (op_move rfl (Opd.tmp _ _ rfl)) ?_
          refine Run.nil (FinR.mk ?_)
          refine nK ?_
          refine Next.weakS [6] [] (by rfl) (by first | exact keeps0 hC _ | exact keepsN hC _ rfl) (by repeat (first | exact trivial | refine ⟨⟨_, rfl, .inl ⟨rfl, rfl⟩⟩, ?_⟩ | refine ⟨⟨_, rfl, .inl ⟨slEq rfl tN, rfl⟩⟩, ?_⟩ | refine ⟨⟨_, rfl, .inl ⟨ivEq tX, rfl⟩⟩, ?_⟩)) (by repeat (first | exact trivial | refine ⟨ent_same rfl rfl rfl tL, ?_⟩ | refine ⟨ent_same rfl rfl (rfEq rfl tU) tL, ?_⟩ | refine ⟨ent_same rfl rfl (flEq rfl (by first | (simp; done) | (simp; omega) | (simp [encHo, encRt, encP]; done) | simp [maxC, minC])) trivial, ?_⟩)) rfl (hK1)
        · have hie : i = ls.length := by simp at hb; omega
          rw [hie, List.take_length]
          refine nK ?_
          refine s_reg rfl ?_
          refine Run.pure (dd := some 35) rfl rfl (op_move rfl (Opd.tmp _ _ rfl)) ?_
          refine Run.pure (dd := some 2) rfl rfl (op_assign rfl (Opd.tmp _ _ rfl)) ?_
          refine Run.nil (FinR.mk ?_)
          refine nK ?_
          (first | exact s_o1 hC rfl tV | exact s_o2 hC rfl tV tV | exact s_o3 hC rfl tV tV tV | exact s_o4 hC rfl tV tV tV tV | exact s_out0 hC rfl | exact s_outO hC rfl rfl rfl)
end Go.Proofs.Ytinddhlmgiahiaa
/- Contracts of the library, laid at this translation. Written by the kit's printer. -/
namespace Go.Proofs.Ytinddhlmgiahiaa
open Go Go.Proofs Go.Shelf
def Try.sortPfx_ren : Go.Shelf.Ren := ⟨fun | 6 => 64 | 15 => 77 | 14 => 76 | 28 => 92 | 29 => 93 | 20 => 84 | 21 => 85 | 22 => 86 | 23 => 87 | 24 => 88 | 25 => 89 | 26 => 90 | 27 => 91 | 46 => 96 | 47 => 97 | 48 => 98 | 49 => 99 | 50 => 100 | 57 => 101 | n => n, fun | 22 => 43 | 24 => 34 | 25 => 45 | 3 => 3 | 39 => 94 | 0 => 0 | 53 => 31 | 55 => 111 | 4 => 4 | 46 => 104 | 45 => 103 | 50 => 82 | 5 => 5 | 9 => 9 | 66 => 113 | 70 => 117 | 76 => 119 | 77 => 120 | n => n, fun | n => n⟩
theorem Try.sortPfx : Go.Proofs.SlLaysF0.n6 Try.prog Try.sortPfx_ren := {
  mixed := by kernel_rfl
  f6 := ⟨Try.f64.name, by decide, Try.func64.trans (congrArg some (by kernel_rfl))⟩
  f14 := ⟨Try.f76.name, by decide, Try.func76.trans (congrArg some (by kernel_rfl))⟩
  f15 := Try.func77.trans (congrArg some (by kernel_rfl))
  f20 := ⟨Try.f84.name, by decide, Try.func84.trans (congrArg some (by kernel_rfl))⟩
  f21 := ⟨Try.f85.name, by decide, Try.func85.trans (congrArg some (by kernel_rfl))⟩
  f22 := ⟨Try.f86.name, by decide, Try.func86.trans (congrArg some (by kernel_rfl))⟩
  f23 := ⟨Try.f87.name, by decide, Try.func87.trans (congrArg some (by kernel_rfl))⟩
  f24 := ⟨Try.f88.name, by decide, Try.func88.trans (congrArg some (by kernel_rfl))⟩
  f25 := ⟨Try.f89.name, by decide, Try.func89.trans (congrArg some (by kernel_rfl))⟩
  f26 := ⟨Try.f90.name, by decide, Try.func90.trans (congrArg some (by kernel_rfl))⟩
  f27 := ⟨Try.f91.name, by decide, Try.func91.trans (congrArg some (by kernel_rfl))⟩
  f28 := Try.func92.trans (congrArg some (by kernel_rfl))
  f29 := Try.func93.trans (congrArg some (by kernel_rfl))
  f46 := ⟨Try.f96.name, by decide, Try.func96.trans (congrArg some (by kernel_rfl))⟩
  f47 := Try.func97.trans (congrArg some (by kernel_rfl))
  f48 := Try.func98.trans (congrArg some (by kernel_rfl))
  f49 := ⟨Try.f99.name, by decide, Try.func99.trans (congrArg some (by kernel_rfl))⟩
  f50 := ⟨Try.f100.name, by decide, Try.func100.trans (congrArg some (by kernel_rfl))⟩
  f57 := ⟨Try.f101.name, by decide, Try.func101.trans (congrArg some (by kernel_rfl))⟩
  t0 := Try.underlying0
  a0 := Try.isAgg0
  z0 := Try.sizeOf0
  v0 := Try.zeroValue0
  t3 := Try.underlying3
  a3 := Try.isAgg3
  z3 := Try.sizeOf3
  v3 := Try.zeroValue3
  t4 := Try.underlying4
  a4 := Try.isAgg4
  z4 := Try.sizeOf4
  v4 := Try.zeroValue4
  t5 := Try.underlying5
  a5 := Try.isAgg5
  z5 := Try.sizeOf5
  v5 := Try.zeroValue5
  t9 := Try.underlying9
  a9 := Try.isAgg9
  z9 := Try.sizeOf9
  v9 := Try.zeroValue9
  t22 := Try.underlying43
  a22 := Try.isAgg43
  z22 := Try.sizeOf43
  v22 := Try.zeroValue43
  t25 := Try.underlying45
  a25 := Try.isAgg45
  z25 := Try.sizeOf45
  v25 := Try.zeroValue45
  t39 := Try.underlying94
  a39 := Try.isAgg94
  z39 := Try.sizeOf94
  v39 := Try.zeroValue94
  t45 := Try.underlying103
  a45 := Try.isAgg103
  z45 := Try.sizeOf103
  v45 := Try.zeroValue103
  t46 := Try.underlying104
  a46 := Try.isAgg104
  z46 := Try.sizeOf104
  v46 := Try.zeroValue104
  t50 := Try.underlying82
  a50 := Try.isAgg82
  z50 := Try.sizeOf82
  v50 := Try.zeroValue82
  t53 := Try.underlying31
  a53 := Try.isAgg31
  z53 := Try.sizeOf31
  v53 := Try.zeroValue31
  t55 := Try.underlying111
  a55 := Try.isAgg111
  z55 := Try.sizeOf111
  v55 := Try.zeroValue111
  t66 := Try.underlying113
  a66 := Try.isAgg113
  z66 := Try.sizeOf113
  v66 := Try.zeroValue113
  t70 := Try.underlying117
  a70 := Try.isAgg117
  z70 := Try.sizeOf117
  v70 := Try.zeroValue117
  t76 := Try.underlying119
  a76 := Try.isAgg119
  z76 := Try.sizeOf119
  v76 := Try.zeroValue119
  t77 := Try.underlying120
  a77 := Try.isAgg120
  z77 := Try.sizeOf120
  v77 := Try.zeroValue120 }
open Go Go.RT Go.Proofs Go.Pl
set_option maxRecDepth 20000
abbrev OPf (l : List Pfx) : Option Ob := some (.flat 2 (l.map encP))
theorem clonePf_c (l : List Pfx) (hn : l.length ≤ 9000) : Meets Try.prog 63 ([VP l].map PV.fz) 0 [] (.sl 0 2 0 l.length) [(0, OPf l)] 1 := by
  refine Meets.intro Try.func63 rfl (Nat.le_of_ble_eq_true rfl) fun C hC => ?_
  simp only [List.map, argEnv, Nat.reduceAdd]
  refine nK ?_
  refine s_reg rfl ?_
  refine Run.pure (dd := some 2) rfl rfl (op_assign rfl (Opd.const _)) ?_
  refine Run.nil (FinR.mk ?_)
  refine nK ?_
  refine s_reg rfl ?_
  refine Run.pure (dd := some 3) rfl rfl (op_move rfl (Opd.tmp _ _ rfl)) ?_
  refine Run.pure (dd := some 4) rfl rfl (op_eqnil rfl (Opd.tmp _ _ rfl)) ?_
  refine Run.nil (FinR.mk ?_)
  refine nK ?_
  refine Next.abool 4 rfl (fun b hb0 => ?_)
  refine nK ?_
  refine n_cond _ rfl (fun hb => ?_) (fun hb => ?_)
  · have he : l = [] := by have := hb0 hb; simpa using this
    subst he
    refine nK ?_
    refine s_reg rfl ?_
    refine Run.pure (dd := some 2) rfl rfl (op_assign rfl (Opd.const _)) ?_
    refine Run.nil (FinR.mk ?_)
    refine nK ?_
    refine Next.adopt 2 2 rfl ?_
    (first | exact s_o1 hC rfl tV | exact s_o2 hC rfl tV tV | exact s_o3 hC rfl tV tV tV | exact s_o4 hC rfl tV tV tV tV | exact s_out0 hC rfl | exact s_outO hC rfl rfl rfl)
  · refine nK ?_
    refine s_reg rfl ?_
    refine Run.eff (dd := some 5) rfl rfl (op_buildSlice_own rfl (RowsF.nil _) rfl rfl rfl) ?_
    refine Run.pure (dd := some 6) rfl rfl (op_move rfl (Opd.tmp _ _ rfl)) ?_
    refine Run.eff (dd := some 7) rfl rfl (op_append rfl (Opd.tmp _ _ rfl) (Opd.tmp _ _ rfl) rfl (by simp) rfl rfl tB tB) ?_
    refine Run.pure (dd := some 2) rfl rfl (op_assign rfl (Opd.tmp _ _ rfl)) ?_
    refine Run.nil (FinR.mk ?_)
    refine nK ?_
    refine Next.weakS [2] [] (by rfl) (keeps0 hC _) (G' := [(2, .sl 0 2 0 l.length)]) (H' := [(0, OPf l)]) (by repeat (first | exact trivial | refine ⟨⟨_, rfl, .inl ⟨rfl, rfl⟩⟩, ?_⟩ | refine ⟨⟨_, rfl, .inl ⟨slEq rfl tN, rfl⟩⟩, ?_⟩ | refine ⟨⟨_, rfl, .inl ⟨ivEq tX, rfl⟩⟩, ?_⟩)) (by repeat (first | exact trivial | refine ⟨ent_same rfl rfl rfl tL, ?_⟩ | refine ⟨ent_same rfl rfl (rfEq rfl tU) tL, ?_⟩ | refine ⟨ent_same rfl rfl (flEq rfl (by first | (simp; done) | (simp; omega) | (simp [encHo, encRt, encP]; done) | simp [maxC, minC])) trivial, ?_⟩)) rfl ?_
    (first | exact s_o1 hC rfl tV | exact s_o2 hC rfl tV tV | exact s_o3 hC rfl tV tV tV | exact s_o4 hC rfl tV tV tV tV | exact s_out0 hC rfl | exact s_outO hC rfl rfl rfl)
theorem sortPf_c (l : List Pfx) (hn : l.length ≤ 9000) : Meets Try.prog 64 [.sl 0 2 0 l.length, .clo 55 [] []] 1 [(0, OPf l)] (.fz (.tup [])) [(0, OPf (srtP l))] 1 :=
  sort_meets (ρ := Try.sortPfx_ren) Try.sortPfx (k := 2) (by decide) (fun w => run_isAgg (t := 34) inferInstance w) (fun w => run_size (t := 34) inferInstance w) (ev := vPf) (fun _ => rfl) (fun x v hv => by simp [vPf] at hv; rcases hv with rfl | rfl <;> rfl) swo_pf (g := 55) (enters_of Try.func55 (by kernel_rfl) rfl) (fun x y => pcmp_c x y) (l := l) (by omega)
theorem kept_row {α : Type} (enc : α → List FV) (c l : List α) (j : Nat) (h : c.length ≤ j) (hj : j < l.length) : ((c ++ l.drop c.length).map enc)[j]? = some (enc l[j]) := by
  rw [List.getElem?_map, kept_get c l j h, List.getElem?_eq_getElem hj]; rfl
theorem compactPf_c (l : List Pfx) (hn : l.length ≤ 9000) : Meets Try.prog 65 [.sl 0 2 0 l.length] 1 [(0, OPf l)] (.fz (VP (compL eqPf l))) [] 1 := by
  refine Meets.intro Try.func65 rfl (Nat.le_of_ble_eq_true rfl) fun C hC => ?_
  simp only [List.map, argEnv, Nat.reduceAdd]
  refine nK ?_
  refine s_reg rfl ?_
  refine Run.pure (dd := some 2) rfl rfl (op_assign rfl (Opd.const _)) ?_
  refine Run.nil (FinR.mk ?_)
  refine nK ?_
  refine s_reg rfl ?_
  refine Run.pure (dd := some 6) rfl rfl (op_move rfl (Opd.tmp _ _ rfl)) ?_
  refine Run.pure (dd := some 7) rfl rfl (op_len_sl rfl (Opd.tmp _ _ rfl)) ?_
  refine Run.pure (dd := some 8) rfl rfl (op_lss rfl (Opd.tmp _ _ rfl) (Opd.const _)) ?_
  refine Run.nil (FinR.mk ?_)
  refine nK ?_
  refine n_cond _ rfl (fun hb => ?_) (fun hb => ?_)
  · have h2 : l.length < 2 := by simp at hb; omega
    have e : compL eqPf l = l := by
      match l, h2 with
      | [], _ => rfl
      | [x], _ => rfl
    rw [e]
    refine nK ?_
    refine s_reg rfl ?_
    refine Run.pure (dd := some 9) rfl rfl (op_move rfl (Opd.tmp _ _ rfl)) ?_
    refine Run.pure (dd := some 2) rfl rfl (op_assign rfl (Opd.tmp _ _ rfl)) ?_
    refine Run.nil (FinR.mk ?_)
    refine nK ?_
    refine Next.weakS [2] [2] (by rfl) (keepsN hC _ rfl) (G' := [(2, .fz (VP l))]) (H' := []) (by repeat (first | exact trivial | refine ⟨⟨_, rfl, .inl ⟨rfl, rfl⟩⟩, ?_⟩ | refine ⟨⟨_, rfl, .inl ⟨slEq rfl tN, rfl⟩⟩, ?_⟩ | refine ⟨⟨_, rfl, .inl ⟨ivEq tX, rfl⟩⟩, ?_⟩ | refine ⟨⟨_, rfl, .inr ⟨_, rfl, tW⟩⟩, ?_⟩)) trivial rfl ?_
    exact n_out1 rfl (by rfl) rfl rfl
  · have h2 : 2 ≤ l.length := by simp at hb; omega
    refine nK ?_
    refine s_reg rfl ?_
    refine Run.pure (dd := some 3) rfl rfl (op_assign rfl (Opd.const _)) ?_
    refine Run.nil (FinR.mk ?_)
    refine nK ?_
    refine n_loop (ι := Nat) (fun k => ([(0, .sl 0 2 0 l.length), (3, IV .i64 k)], [(0, OPf l)], 1)) (fun k => 1 ≤ k ∧ k ≤ l.length ∧ compL eqPf (l.take k) = l.take k) (fun k => l.length - k) 1 ⟨Nat.le_refl _, by omega, compL_one eqPf l (by omega)⟩ ?_ ?_
    · refine Next.weakS [0] [] (by rfl) (by first | exact keeps0 hC _ | exact keepsN hC _ rfl) (by repeat (first | exact trivial | refine ⟨⟨_, rfl, .inl ⟨rfl, rfl⟩⟩, ?_⟩ | refine ⟨⟨_, rfl, .inl ⟨slEq rfl tN, rfl⟩⟩, ?_⟩ | refine ⟨⟨_, rfl, .inl ⟨ivEq tX, rfl⟩⟩, ?_⟩)) (by repeat (first | exact trivial | refine ⟨ent_same rfl rfl rfl tL, ?_⟩ | refine ⟨ent_same rfl rfl (rfEq rfl tU) tL, ?_⟩ | refine ⟨ent_same rfl rfl (flEq rfl (by first | (simp; done) | (simp; omega) | (simp [encHo, encRt, encP]; done) | simp [maxC, minC])) trivial, ?_⟩)) rfl (rel_intro)
    · intro k ⟨hk1, hk2, hc⟩ K hK
      refine nK ?_
      refine s_reg rfl ?_
      refine Run.pure (dd := some 10) rfl rfl (op_move rfl (Opd.tmp _ _ rfl)) ?_
      refine Run.pure (dd := some 11) rfl rfl (op_move rfl (Opd.tmp _ _ rfl)) ?_
      refine Run.pure (dd := some 12) rfl rfl (op_len_sl rfl (Opd.tmp _ _ rfl)) ?_
      refine Run.pure (dd := some 13) rfl rfl (op_lss rfl (Opd.tmp _ _ rfl) (Opd.tmp _ _ rfl)) ?_
      refine Run.nil (FinR.mk ?_)
      refine nK ?_
      refine n_cond _ rfl (fun hb => ?_) (fun hb => ?_)
      · have hlt : k < l.length := by simp at hb; omega
        have hr1 := row_at' encP l k hlt
        have hr2 := row_at' encP l (k - 1) (by omega)
        have hst := compL_take eqPf l k (by omega) hlt
        refine nK ?_
        refine s_draw mixed ?_
        refine Run.pure (dd := some 16) rfl rfl (op_move rfl (Opd.tmp _ _ rfl)) ?_
        refine Run.pure (dd := some 17) rfl rfl (op_move rfl (Opd.tmp _ _ rfl)) ?_
        refine Run.pure (dd := some 18) rfl rfl (op_idx_sl0 k rfl (Opd.tmp _ _ rfl) (Opd.tmp _ _ rfl) (by intro _; constructor <;> omega)) ?_
        refine Run.load (dd := some 19) rfl rfl (op_loadw_flat rfl (Opd.tmp _ _ rfl) tH rfl) ?_
        refine Run.pure (dd := some 20) rfl rfl (op_move rfl (Opd.tmp _ _ rfl)) ?_
        refine Run.pure (dd := some 21) rfl rfl (op_move rfl (Opd.tmp _ _ rfl)) ?_
        refine Run.pure (dd := some 22) rfl rfl (op_sub rfl (Opd.tmp _ _ rfl) (Opd.const _) tI) ?_
        refine Run.pure (dd := some 23) rfl rfl (op_idx_sl0 (k - 1) rfl (Opd.tmp _ _ rfl) (Opd.tmp _ _ rfl) (by intro _; constructor <;> omega)) ?_
        refine Run.load (dd := some 24) rfl rfl (op_loadw_flat rfl (Opd.tmp _ _ rfl) tH rfl) ?_
        refine Run.pure (dd := some 25) rfl rfl (op_eqS rfl (Opd.tmp _ _ rfl) (Opd.tmp _ _ rfl) (by kernel_rfl)) ?_
        refine Run.nil (FinD.mk (by kernel_rfl) ?_)
        refine nK ?_
        refine n_cond _ rfl (fun hb => ?_) (fun hb => ?_)
        · have he : eqPf l[k] l[k - 1] = true := (eqFs_encP _ _).symm.trans hb
          rw [he, cond_true, List.append_nil, hc] at hst
          refine nK ?_
          refine s_reg rfl ?_
          refine Run.pure (dd := some 26) rfl rfl (op_move rfl (Opd.tmp _ _ rfl)) ?_
          refine Run.pure (dd := some 27) rfl rfl (op_move rfl (Opd.tmp _ _ rfl)) ?_
          refine Run.load (dd := some 28) rfl rfl (op_slice_view rfl (Opd.tmp _ _ rfl) (Bnd.yes _ _ _ _ _ (Opd.tmp _ _ rfl) tQ) (Bnd.no _) tT) ?_
          refine Run.pure (dd := some 4) rfl rfl (op_assign rfl (Opd.tmp _ _ rfl)) ?_
          refine Run.nil (FinR.mk ?_)
          refine nK ?_
          refine s_reg rfl ?_
          refine Run.pure (dd := some 5) rfl rfl (op_assign rfl (Opd.const _)) ?_
          refine Run.nil (FinR.mk ?_)
          refine nK ?_
          refine n_loop (ι := Nat × List Pfx) (fun g => ([(0, .sl 0 2 0 l.length), (3, IV .i64 g.2.length), (4, .sl 0 2 k (l.length - k)), (5, IV .i64 g.1)], [(0, OPf (g.2 ++ l.drop g.2.length))], 1)) (fun g => 1 ≤ g.1 ∧ k + g.1 ≤ l.length ∧ g.2 = compL eqPf (l.take (k + g.1))) (fun g => l.length - (k + g.1)) (1, l.take k) ⟨Nat.le_refl _, by dsimp only; omega, hst.symm⟩ ?_ ?_
          · have e1 : (l.take k).length = k := by simp; omega
            simp only [e1, List.take_append_drop, Nat.zero_add]
            refine Next.weakS [0] [] (by rfl) (by first | exact keeps0 hC _ | exact keepsN hC _ rfl) (by repeat (first | exact trivial | refine ⟨⟨_, rfl, .inl ⟨rfl, rfl⟩⟩, ?_⟩ | refine ⟨⟨_, rfl, .inl ⟨slEq rfl tN, rfl⟩⟩, ?_⟩ | refine ⟨⟨_, rfl, .inl ⟨ivEq tX, rfl⟩⟩, ?_⟩)) (by repeat (first | exact trivial | refine ⟨ent_same rfl rfl rfl tL, ?_⟩ | refine ⟨ent_same rfl rfl (rfEq rfl tU) tL, ?_⟩ | refine ⟨ent_same rfl rfl (flEq rfl (by first | (simp; done) | (simp; omega) | (simp [encHo, encRt, encP]; done) | simp [maxC, minC])) trivial, ?_⟩)) rfl (rel_intro)
          · intro ⟨j, c⟩ ⟨hj1, hj2, hcd⟩ K2 hK2
            simp only at hj1 hj2 hcd
            dsimp only
            have hcl := compL_len_lt eqPf l k (by omega) hlt he (k + j) (by omega) hj2
            rw [← hcd] at hcl
            have hkl := kept_len c l (by omega)
            refine nK ?_
            refine s_reg rfl ?_
            refine Run.pure (dd := some 29) rfl rfl (op_move rfl (Opd.tmp _ _ rfl)) ?_
            refine Run.pure (dd := some 30) rfl rfl (op_move rfl (Opd.tmp _ _ rfl)) ?_
            refine Run.pure (dd := some 31) rfl rfl (op_len_sl rfl (Opd.tmp _ _ rfl)) ?_
            refine Run.pure (dd := some 32) rfl rfl (op_lss rfl (Opd.tmp _ _ rfl) (Opd.tmp _ _ rfl)) ?_
            refine Run.nil (FinR.mk ?_)
            refine nK ?_
            refine n_cond _ rfl (fun hb => ?_) (fun hb => ?_)
            · have hjl : k + j < l.length := by simp at hb; omega
              have hst2 := compL_take eqPf l (k + j) (by omega) hjl
              rw [← hcd] at hst2
              have hK3 := fun c' h => hK2 (j + 1, c') ⟨by dsimp only; omega, by dsimp only; omega, h⟩ (by dsimp only; omega)
              have g1 := kept_row encP c l (k + j) (by omega) hjl
              have g2 := kept_row encP c l (k + j - 1) (by omega) (by omega)
              have g2' : ((c ++ l.drop c.length).map encP)[k + (j - 1)]? = some (encP l[k + j - 1]) := by rw [← Nat.add_sub_assoc hj1]; exact g2
              have g3 := kept_row encP c l c.length (Nat.le_refl _) (by omega)
              have hset := set_kept c l l[k + j] (by omega)
              refine nK ?_
              refine s_draw mixed ?_
              refine Run.pure (dd := some 35) rfl rfl (op_move rfl (Opd.tmp _ _ rfl)) ?_
              refine Run.pure (dd := some 36) rfl rfl (op_move rfl (Opd.tmp _ _ rfl)) ?_
              refine Run.pure (dd := some 37) rfl rfl (op_idx_sl j rfl (Opd.tmp _ _ rfl) (Opd.tmp _ _ rfl) (by intro _; constructor <;> omega)) ?_
              refine Run.load (dd := some 38) rfl rfl (op_loadw_flat rfl (Opd.tmp _ _ rfl) tH rfl) ?_
              refine Run.pure (dd := some 39) rfl rfl (op_move rfl (Opd.tmp _ _ rfl)) ?_
              refine Run.pure (dd := some 40) rfl rfl (op_move rfl (Opd.tmp _ _ rfl)) ?_
              refine Run.pure (dd := some 41) rfl rfl (op_sub rfl (Opd.tmp _ _ rfl) (Opd.const _) tI) ?_
              refine Run.pure (dd := some 42) rfl rfl (op_idx_sl (j - 1) rfl (Opd.tmp _ _ rfl) (Opd.tmp _ _ rfl) (by intro _; constructor <;> omega)) ?_
              refine Run.load (dd := some 43) rfl rfl (op_loadw_flat rfl (Opd.tmp _ _ rfl) tH rfl) ?_
              refine Run.pure (dd := some 44) rfl rfl (op_neS rfl (Opd.tmp _ _ rfl) (Opd.tmp _ _ rfl) (by kernel_rfl)) ?_
              refine Run.nil (FinD.mk (by kernel_rfl) ?_)
              refine nK ?_
              refine n_cond _ rfl (fun hb => ?_) (fun hb => ?_)
              · rw [eqFs_encP] at hb; have hne : eqPf l[k + j] l[k + j - 1] = false := by simpa [eqPf] using hb
                rw [hne, cond_false] at hst2
                have hK4 := hK3 (c ++ [l[k + j]]) hst2.symm
                have e4 : (c ++ [l[k + j]]).length = c.length + 1 := by simp
                rw [← hset, e4] at hK4
                refine nK ?_
                refine s_reg rfl ?_
                refine Run.pure (dd := some 45) rfl rfl (op_move rfl (Opd.tmp _ _ rfl)) ?_
                refine Run.pure (dd := some 46) rfl rfl (op_move rfl (Opd.tmp _ _ rfl)) ?_
                refine Run.pure (dd := some 47) rfl rfl (op_move rfl (Opd.tmp _ _ rfl)) ?_
                refine Run.pure (dd := some 48) rfl rfl (op_move rfl (Opd.tmp _ _ rfl)) ?_
                refine Run.pure (dd := some 49) rfl rfl (op_idx_sl j rfl (Opd.tmp _ _ rfl) (Opd.tmp _ _ rfl) (by intro _; constructor <;> omega)) ?_
                refine Run.load (dd := some 50) rfl rfl (op_loadw_flat rfl (Opd.tmp _ _ rfl) tH rfl) ?_
                refine Run.pure (dd := some 51) rfl rfl (op_idx_sl0 c.length rfl (Opd.tmp _ _ rfl) (Opd.tmp _ _ rfl) (by intro _; constructor <;> omega)) ?_
                refine Run.eff (dd := none) rfl rfl (op_store_flat rfl (Opd.tmp _ _ rfl) (Opd.tmp _ _ rfl) tC rfl rfl g3 tS) ?_
                refine Run.nil (FinR.mk ?_)
                refine nK ?_
                refine s_reg rfl ?_
                refine Run.pure (dd := some 52) rfl rfl (op_move rfl (Opd.tmp _ _ rfl)) ?_
                refine Run.pure (dd := some 53) rfl rfl (op_add rfl (Opd.tmp _ _ rfl) (Opd.const _) tI) ?_
                refine Run.pure (dd := some 3) rfl rfl (op_assign rfl (Opd.tmp _ _ rfl)) ?_
                refine Run.nil (FinR.mk ?_)
                refine nK ?_
                refine s_reg rfl ?_
                refine Run.pure (dd := some 33) rfl rfl (op_move rfl (Opd.tmp _ _ rfl)) ?_
                refine Run.pure (dd := some 34) rfl rfl (op_add rfl (Opd.tmp _ _ rfl) (Opd.const _) tI) ?_
                refine Run.pure (dd := some 5) rfl rfl (op_assign rfl (Opd.tmp _ _ rfl)) ?_
                refine Run.nil (FinR.mk ?_)
                refine nK ?_
                refine Next.weakS [0] [] (by rfl) (by first | exact keeps0 hC _ | exact keepsN hC _ rfl) (by repeat (first | exact trivial | refine ⟨⟨_, rfl, .inl ⟨rfl, rfl⟩⟩, ?_⟩ | refine ⟨⟨_, rfl, .inl ⟨slEq rfl tN, rfl⟩⟩, ?_⟩ | refine ⟨⟨_, rfl, .inl ⟨ivEq tX, rfl⟩⟩, ?_⟩)) (by repeat (first | exact trivial | refine ⟨ent_same rfl rfl rfl tL, ?_⟩ | refine ⟨ent_same rfl rfl (rfEq rfl tU) tL, ?_⟩ | refine ⟨ent_same rfl rfl (flEq rfl (by first | (simp; done) | (simp; omega) | (simp [encHo, encRt, encP]; done) | simp [maxC, minC])) trivial, ?_⟩)) rfl (hK4)
              · rw [eqFs_encP] at hb; have hne : eqPf l[k + j] l[k + j - 1] = true := by simpa [eqPf] using hb
                rw [hne, cond_true, List.append_nil] at hst2
                refine nK ?_
                refine s_reg rfl ?_
                refine Run.pure (dd := some 33) rfl rfl (op_move rfl (Opd.tmp _ _ rfl)) ?_
                refine Run.pure (dd := some 34) rfl rfl (op_add rfl (Opd.tmp _ _ rfl) (Opd.const _) tI) ?_
                refine Run.pure (dd := some 5) rfl rfl (op_assign rfl (Opd.tmp _ _ rfl)) ?_
                refine Run.nil (FinR.mk ?_)
                refine nK ?_
                refine Next.weakS [0] [] (by rfl) (by first | exact keeps0 hC _ | exact keepsN hC _ rfl) (by repeat (first | exact trivial | refine ⟨⟨_, rfl, .inl ⟨rfl, rfl⟩⟩, ?_⟩ | refine ⟨⟨_, rfl, .inl ⟨slEq rfl tN, rfl⟩⟩, ?_⟩ | refine ⟨⟨_, rfl, .inl ⟨ivEq tX, rfl⟩⟩, ?_⟩)) (by repeat (first | exact trivial | refine ⟨ent_same rfl rfl rfl tL, ?_⟩ | refine ⟨ent_same rfl rfl (rfEq rfl tU) tL, ?_⟩ | refine ⟨ent_same rfl rfl (flEq rfl (by first | (simp; done) | (simp; omega) | (simp [encHo, encRt, encP]; done) | simp [maxC, minC])) trivial, ?_⟩)) rfl ((hK3 c hst2.symm))
            · have hje : k + j = l.length := by simp at hb; omega
              rw [hje, List.take_length] at hcd
              rw [← hcd]
              refine nK ?_
              refine s_reg rfl ?_
              refine Run.pure (dd := some 54) rfl rfl (op_move rfl (Opd.tmp _ _ rfl)) ?_
              refine Run.pure (dd := some 55) rfl rfl (op_move rfl (Opd.tmp _ _ rfl)) ?_
              refine Run.load (dd := some 56) rfl rfl (op_slice_view rfl (Opd.tmp _ _ rfl) (Bnd.yes _ _ _ _ _ (Opd.tmp _ _ rfl) tQ) (Bnd.no _) (by intro _; refine ⟨rfl, ?_⟩; rw [List.length_map, hkl]; omega)) ?_
              refine Run.eff (dd := none) rfl rfl (op_clear rfl (Opd.tmp _ _ rfl) rfl rfl rfl rfl (by rw [List.length_map, hkl] <;> omega)) ?_
              refine Run.nil (FinR.mk ?_)
              refine nK ?_
              refine s_reg rfl ?_
              refine Run.pure (dd := some 57) rfl rfl (op_move rfl (Opd.tmp _ _ rfl)) ?_
              refine Run.pure (dd := some 58) rfl rfl (op_move rfl (Opd.tmp _ _ rfl)) ?_
              refine Run.load (dd := some 59) rfl rfl (op_slice_view rfl (Opd.tmp _ _ rfl) (Bnd.no _) (Bnd.yes _ _ _ _ _ (Opd.tmp _ _ rfl) tQ) (by intro _; refine ⟨rfl, ?_⟩; simp; try omega)) ?_
              refine Run.pure (dd := some 2) rfl rfl (op_assign rfl (Opd.tmp _ _ rfl)) ?_
              refine Run.nil (FinR.mk ?_)
              refine nK ?_
              refine Next.weakS [2] [2] (by rfl) (keepsN hC _ rfl) (G' := [(2, .fz (VP c))]) (H' := []) ⟨⟨_, rfl, .inr ⟨_, rfl, .sl _ _ _ _ _ _ rfl rfl (by simp) (by simp)⟩⟩, trivial⟩ trivial rfl ?_
              exact n_out1 rfl (by rfl) rfl rfl
        · have he : eqPf l[k] l[k - 1] = false := (eqFs_encP _ _).symm.trans hb
          rw [he, cond_false, hc, ← List.take_succ_eq_append_getElem hlt] at hst
          refine nK ?_
          refine s_reg rfl ?_
          refine Run.pure (dd := some 14) rfl rfl (op_move rfl (Opd.tmp _ _ rfl)) ?_
          refine Run.pure (dd := some 15) rfl rfl (op_add rfl (Opd.tmp _ _ rfl) (Opd.const _) tI) ?_
          refine Run.pure (dd := some 3) rfl rfl (op_assign rfl (Opd.tmp _ _ rfl)) ?_
          refine Run.nil (FinR.mk ?_)
          refine nK ?_
          refine Next.weakS [0] [] (by rfl) (by first | exact keeps0 hC _ | exact keepsN hC _ rfl) (by repeat (first | exact trivial | refine ⟨⟨_, rfl, .inl ⟨rfl, rfl⟩⟩, ?_⟩ | refine ⟨⟨_, rfl, .inl ⟨slEq rfl tN, rfl⟩⟩, ?_⟩ | refine ⟨⟨_, rfl, .inl ⟨ivEq tX, rfl⟩⟩, ?_⟩)) (by repeat (first | exact trivial | refine ⟨ent_same rfl rfl rfl tL, ?_⟩ | refine ⟨ent_same rfl rfl (rfEq rfl tU) tL, ?_⟩ | refine ⟨ent_same rfl rfl (flEq rfl (by first | (simp; done) | (simp; omega) | (simp [encHo, encRt, encP]; done) | simp [maxC, minC])) trivial, ?_⟩)) rfl ((hK (k + 1) ⟨by omega, by omega, hst⟩ (by omega)))
      · have hie : k = l.length := by simp at hb; omega
        rw [take_len_eq' hie] at hc
        rw [hc]
        refine nK ?_
        refine s_reg rfl ?_
        refine Run.pure (dd := some 60) rfl rfl (op_move rfl (Opd.tmp _ _ rfl)) ?_
        refine Run.pure (dd := some 2) rfl rfl (op_assign rfl (Opd.tmp _ _ rfl)) ?_
        refine Run.nil (FinR.mk ?_)
        refine nK ?_
        refine Next.weakS [2] [2] (by rfl) (keepsN hC _ rfl) (G' := [(2, .fz (VP l))]) (H' := []) (by repeat (first | exact trivial | refine ⟨⟨_, rfl, .inl ⟨rfl, rfl⟩⟩, ?_⟩ | refine ⟨⟨_, rfl, .inl ⟨slEq rfl tN, rfl⟩⟩, ?_⟩ | refine ⟨⟨_, rfl, .inl ⟨ivEq tX, rfl⟩⟩, ?_⟩ | refine ⟨⟨_, rfl, .inr ⟨_, rfl, tW⟩⟩, ?_⟩)) trivial rfl ?_
        exact n_out1 rfl (by rfl) rfl rfl
theorem psort_c (l : List Pfx) (hn : l.length ≤ 9000) : Pure Try.prog 44 [VP l] (VP (sortPf l)) := by
  have hcl := clonePf_c l hn
  have hso := sortPf_c l hn
  have hsl := srtP_len l
  have hco := compactPf_c (srtP l) (by omega)
  rw [hsl, srt_comp] at hco
  refine Meets.intro Try.func44 rfl (Nat.le_of_ble_eq_true rfl) fun C hC => ?_
  simp only [List.map, argEnv, Nat.reduceAdd]
  refine nK ?_
  refine s_reg rfl ?_
  refine Run.pure (dd := some 2) rfl rfl (op_assign rfl (Opd.const _)) ?_
  refine Run.nil (FinR.mk ?_)
  refine nK ?_
  refine s_reg rfl ?_
  refine Run.pure (dd := some 4) rfl rfl (op_move rfl (Opd.tmp _ _ rfl)) ?_
  refine Run.eff (dd := some 5) rfl rfl (op_call_fresh (fun _ => hcl) rfl (Opd.func _) (Opds.cons _ _ _ _ (Opd.tmp _ _ rfl) Opds.nil)) ?_
  refine Run.pure (dd := some 3) rfl rfl (op_assign rfl (Opd.tmp _ _ rfl)) ?_
  refine Run.nil (FinR.mk ?_)
  refine nK ?_
  refine s_reg rfl ?_
  refine Run.pure (dd := some 6) rfl rfl (op_move rfl (Opd.tmp _ _ rfl)) ?_
  refine Run.eff (dd := some 7) rfl rfl (op_call (n := 1) (n' := 1) [0] (fun _ => hso) rfl (Opd.func _) (Opds.cons _ _ _ _ (Opd.tmp _ _ rfl) (Opds.cons _ _ _ _ (Opd.func _) Opds.nil)) rfl rfl (Lent.of rfl rfl (by repeat (first | exact trivial | refine ⟨⟨rfl, rfl, rfl, tL⟩, ?_⟩)) rfl) rfl rfl rfl rfl rfl) ?_
  refine Run.nil (FinR.mk ?_)
  refine nK ?_
  refine s_reg rfl ?_
  refine Run.pure (dd := some 8) rfl rfl (op_move rfl (Opd.tmp _ _ rfl)) ?_
  refine Run.eff (dd := some 9) rfl rfl (op_call (n := 1) (n' := 1) [0] (fun _ => hco) rfl (Opd.func _) (Opds.cons _ _ _ _ (Opd.tmp _ _ rfl) Opds.nil) rfl rfl (Lent.of rfl rfl (by repeat (first | exact trivial | refine ⟨⟨rfl, rfl, rfl, tL⟩, ?_⟩)) rfl) rfl rfl rfl rfl rfl) ?_
  refine Run.pure (dd := some 2) rfl rfl (op_assign rfl (Opd.tmp _ _ rfl)) ?_
  refine Run.nil (FinR.mk ?_)
  refine nK ?_
  (first | exact s_o1 hC rfl tV | exact s_o2 hC rfl tV tV | exact s_o3 hC rfl tV tV tV | exact s_o4 hC rfl tV tV tV tV | exact s_out0 hC rfl | exact s_outO hC rfl rfl rfl)
open Go Go.RT Go.Proofs Go.Pl
set_option maxRecDepth 20000
theorem concat2_c (a b : List Rte) (ha : a.length ≤ 4000) (hb : b.length ≤ 4000) : Meets Try.prog 43 ([.vals 1 [[VRt a], [VRt b]]].map PV.fz) 0 [] (.sl 0 7 0 (a ++ b).length) [(0, ORts (a ++ b))] 1 := by
  have := concat_c [a, b] (by simp; omega) (by simp)
  rwa [show [a, b].flatten = a ++ b by simp] at this
theorem byPf_ok {l : List Rte} (ho : ∀ x ∈ l, okRt x) (hh : ∀ x ∈ l, lenOk x.hs.length) : ((byPf l).map (·.1)).Nodup ∧ (∀ p ∈ byPf l, p.1.ok) ∧ ∀ p ∈ byPf l, lenOk p.2.hs.length := by
  obtain ⟨kn, kk⟩ := rtM_ok l [] ho (by simp) (fun p hp => by simp at hp)
  have kv := rtM_vals l [] (fun x => lenOk x.hs.length) hh (fun p hp => by simp at hp)
  unfold byPf
  split
  · simp
  · split
    · simp
    · exact ⟨kn, kk, kv⟩
theorem mget_val {Q : Rte → Prop} {m : List (Pfx × Rte)} (h : ∀ p ∈ m, Q p.2) (hz : Q zRte) (k : Pfx) : Q ((mget m k).getD zRte) := by
  induction m with
  | nil => exact hz
  | cons p m ih =>
    simp only [mget]
    split
    · exact h p (List.mem_cons_self ..)
    · exact ih fun q hq => h q (List.mem_cons_of_mem _ hq)
theorem zRt_rep (w : World) (S : Nat → Prop) : FRep w S (.agg #[.int .u32 0, .int .i64 0, .int .i64 0, .int .i64 0, .int .i64 0, .int .i64 0, .slice none 0 0]) (evRt zRte) :=
  zFRep (by exact ⟨.inl rfl, .inl rfl, .inl rfl, .inl rfl, .inl rfl, .inl rfl, .inr ⟨6, rfl, rfl⟩, trivial⟩) (by rfl) w S
theorem chg_c (a b : List Rte) (hoa : ∀ x ∈ a, okRt x) (hha : ∀ x ∈ a, lenOk x.hs.length) (hna : a.length ≤ 4000) (hob : ∀ x ∈ b, okRt x) (hhb : ∀ x ∈ b, lenOk x.hs.length) (hnb : b.length ≤ 4000) : Pure Try.prog 23 [VRt a, VRt b] (VP (changesF a b)) := by
  have app1 : ∀ (o : List Pfx) (x : Pfx), (o ++ [x]).length = o.length + 1 := fun o x => by simp
  have app2 : ∀ (o : List Pfx) (x : Pfx), (o ++ [x]).map encP = o.map encP ++ [encP x] := fun o x => by simp
  have kA := bypf_c a hoa hha hna
  have kB := bypf_c b hob hhb hnb
  have kcc := concat2_c a b hna hnb
  obtain ⟨a1, a2, a3⟩ := byPf_ok hoa hha
  obtain ⟨b1, b2, b3⟩ := byPf_ok hob hhb
  have hoc : ∀ x ∈ a ++ b, x.pf.ok := fun x hx => (List.mem_append.1 hx).elim (fun h => (hoa x h).1) fun h => (hob x h).1
  have hcf : ∀ p, (decide ((mget (byPf a) p).isSome ≠ (mget (byPf b) p).isSome) || ((mget (byPf a) p).isSome && !decide ((mget (byPf a) p).getD zRte = (mget (byPf b) p).getD zRte))) = chgP (listF a) (listF b) p := fun p => by
    rw [chg_cond, byPf_get, byPf_get]; rfl
  have hch : changesF a b = sortPf (chgT (chgP (listF a) (listF b)) (a ++ b)) := rfl
  rw [hch]
  generalize chgP (listF a) (listF b) = f at *
  clear hch
  generalize byPf a = A at *
  generalize byPf b = B at *
  have hlc : (a ++ b).length ≤ 8000 := by simp; omega
  refine Meets.intro Try.func23 rfl (Nat.le_of_ble_eq_true rfl) fun C hC => ?_
  simp only [List.map, argEnv, Nat.reduceAdd]
  refine nK ?_
  refine s_reg rfl ?_
  refine Run.pure (dd := some 4) rfl rfl (op_assign rfl (Opd.const _)) ?_
  refine Run.nil (FinR.mk ?_)
  refine nK ?_
  refine s_reg rfl ?_
  refine Run.pure (dd := some 14) rfl rfl (op_move rfl (Opd.tmp _ _ rfl)) ?_
  refine Run.eff (dd := some 15) rfl rfl (op_call (n := 0) (n' := 1) [] (fun _ => kA) rfl (Opd.func _) (Opds.cons _ _ _ _ (Opd.tmp _ _ rfl) Opds.nil) rfl rfl (Lent.nil _) rfl rfl rfl rfl rfl) ?_
  refine Run.pure (dd := some 16) rfl rfl (op_move rfl (Opd.tmp _ _ rfl)) ?_
  refine Run.eff (dd := some 17) rfl rfl (op_call (n := 0) (n' := 1) [] (fun _ => kB) rfl (Opd.func _) (Opds.cons _ _ _ _ (Opd.tmp _ _ rfl) Opds.nil) rfl rfl (Lent.nil _) rfl rfl rfl rfl rfl) ?_
  refine Run.pure (dd := some 5) rfl rfl (op_assign rfl (Opd.tmp _ _ rfl)) ?_
  refine Run.pure (dd := some 6) rfl rfl (op_assign rfl (Opd.tmp _ _ rfl)) ?_
  refine Run.nil (FinR.mk ?_)
  refine nK ?_
  refine nK ?_
  refine s_reg rfl ?_
  refine Run.pure (dd := some 7) rfl rfl (op_assign rfl (Opd.const _)) ?_
  refine Run.nil (FinR.mk ?_)
  refine nK ?_
  refine Next.adopt 7 2 rfl ?_
  refine nK ?_
  refine s_reg rfl ?_
  refine Run.pure (dd := some 18) rfl rfl (op_move rfl (Opd.tmp _ _ rfl)) ?_
  refine Run.pure (dd := some 19) rfl rfl (op_move rfl (Opd.tmp _ _ rfl)) ?_
  refine Run.pure (dd := some 20) rfl rfl (op_buildSlice_fz rfl (RowsF.cons _ _ _ _ _ _ (Opd.tmp _ _ rfl) tC (by rfl) (RowsF.cons _ _ _ _ _ _ (Opd.tmp _ _ rfl) tC (by rfl) (RowsF.nil _))) rfl rfl) ?_
  refine Run.eff (dd := some 21) rfl rfl (op_call_fresh (fun _ => kcc) rfl (Opd.func _) (Opds.cons _ _ _ _ (Opd.tmp _ _ rfl) Opds.nil)) ?_
  refine Run.pure (dd := some 22) rfl rfl (op_len_sl rfl (Opd.tmp _ _ rfl)) ?_
  refine Run.pure (dd := some 23) rfl rfl (op_move rfl (Opd.const _)) ?_
  refine Run.nil (FinR.mk ?_)
  refine nK ?_
  generalize a ++ b = c at *
  refine n_loop (ι := Nat) (fun i => ([(5, .mp 0), (6, .mp 1), (7, .sl 2 2 0 (chgT f (c.take i)).length), (21, .fz (VRt c)), (22, IV .i64 c.length), (23, IV .i64 i)], [(0, OMap ekP evRt A), (1, OMap ekP evRt B), (2, OPf (chgT f (c.take i)))], 3)) (fun i => i ≤ c.length) (fun i => c.length - i) 0 (Nat.zero_le _) ?_ ?_
  · refine Next.weakS [5, 6, 7] [21] (by rfl) (by first | exact keeps0 hC _ | exact keepsN hC _ rfl) (by repeat (first | exact trivial | refine ⟨⟨_, rfl, .inl ⟨rfl, rfl⟩⟩, ?_⟩ | refine ⟨⟨_, rfl, .inl ⟨slEq rfl tN, rfl⟩⟩, ?_⟩ | refine ⟨⟨_, rfl, .inl ⟨ivEq tX, rfl⟩⟩, ?_⟩ | refine ⟨⟨_, rfl, .inr ⟨_, rfl, tW⟩⟩, ?_⟩)) (by repeat (first | exact trivial | refine ⟨ent_same rfl rfl rfl tL, ?_⟩ | refine ⟨ent_same rfl rfl (rfEq rfl tU) tL, ?_⟩ | refine ⟨ent_same rfl rfl (flEq rfl (by first | (simp; done) | (simp; omega) | (simp [encHo, encRt, encP]; done) | simp [maxC, minC])) trivial, ?_⟩)) rfl (rel_intro)
  · intro i hi K hK
    have hol := chgT_len f (c.take i)
    rw [List.length_take, Nat.min_eq_left hi] at hol
    refine nK ?_
    refine s_reg rfl ?_
    refine Run.pure (dd := some 24) rfl rfl (op_lss rfl (Opd.tmp _ _ rfl) (Opd.tmp _ _ rfl)) ?_
    refine Run.nil (FinR.mk ?_)
    refine nK ?_
    refine n_cond _ rfl (fun hb => ?_) (fun hb => ?_)
    · have hlt : i < c.length := by simp at hb; omega
      have hr1 := row_at' encRt c i hlt
      have hK1 := hK (i + 1) (by omega) (by omega)
      rw [chgT_take f hlt] at hK1
      have okx := hoc _ (List.getElem_mem hlt)
      generalize chgT f (c.take i) = o at *
      generalize c[i] = x at *
      have hcx := hcf x.pf
      have l1 := mget_val (Q := fun x => lenOk x.hs.length) a3 (by show lenOk 0; unfold lenOk; omega) x.pf
      have l2 := mget_val (Q := fun x => lenOk x.hs.length) b3 (by show lenOk 0; unfold lenOk; omega) x.pf
      have ks := samert_c _ _ l1 l2
      refine nK ?_
      refine s_reg rfl ?_
      refine Run.pure (dd := some 25) rfl rfl (op_idx_fz _ rfl (Opd.tmp _ _ rfl) (Opd.tmp _ _ rfl) tF) ?_
      refine Run.pure (dd := some 26) rfl rfl (op_loadw_fz rfl (Opd.tmp _ _ rfl) rfl) ?_
      refine Run.eff (dd := some 9) rfl rfl (op_alloc rfl rfl rfl rfl) ?_
      refine Run.eff (dd := none) rfl rfl (op_store_flat rfl (Opd.tmp _ _ rfl) (Opd.tmp _ _ rfl) tC rfl rfl (by first | rfl | assumption) tS) ?_
      refine Run.nil (FinR.mk ?_)
      refine nK ?_
      refine s_reg rfl ?_
      refine Run.pure (dd := some 28) rfl rfl (op_move rfl (Opd.tmp _ _ rfl)) ?_
      refine Run.pure (dd := some 29) rfl rfl (op_fld_ptr (by decide) rfl (Opd.tmp _ _ rfl)) ?_
      refine Run.load (dd := some 30) rfl rfl (op_loadn_flat rfl (Opd.tmp _ _ rfl) tH tR tR) ?_
      refine Run.load (dd := some 31) rfl rfl (op_lookup2 (κ := Pfx) (ν := Rte) (ek := ekP) (ev := evRt) (l := A) (k := x.pf) zRte rfl (Opd.tmp _ _ rfl) (Opd.tmp _ _ rfl) rfl (by intro _; exact ⟨a1, a2, okx⟩) zRt_rep) ?_
      refine Run.pure (dd := some 27) rfl rfl (op_move rfl (Opd.tmp _ _ rfl)) ?_
      refine Run.pure (dd := some 32) rfl rfl (op_extract_fz rfl (Opd.tmp _ _ rfl) rfl) ?_
      refine Run.pure (dd := some 33) rfl rfl (op_extract_fz rfl (Opd.tmp _ _ rfl) rfl) ?_
      refine Run.eff (dd := some 10) rfl rfl (op_alloc rfl rfl rfl rfl) ?_
      refine Run.eff (dd := none) rfl rfl (op_store_flat rfl (Opd.tmp _ _ rfl) (Opd.tmp _ _ rfl) tC rfl rfl (by first | rfl | assumption) tS) ?_
      refine Run.pure (dd := some 11) rfl rfl (op_assign rfl (Opd.tmp _ _ rfl)) ?_
      refine Run.nil (FinR.mk ?_)
      refine nK ?_
      refine s_reg rfl ?_
      refine Run.pure (dd := some 35) rfl rfl (op_move rfl (Opd.tmp _ _ rfl)) ?_
      refine Run.pure (dd := some 36) rfl rfl (op_fld_ptr (by decide) rfl (Opd.tmp _ _ rfl)) ?_
      refine Run.load (dd := some 37) rfl rfl (op_loadn_flat rfl (Opd.tmp _ _ rfl) tH tR tR) ?_
      refine Run.load (dd := some 38) rfl rfl (op_lookup2 (κ := Pfx) (ν := Rte) (ek := ekP) (ev := evRt) (l := B) (k := x.pf) zRte rfl (Opd.tmp _ _ rfl) (Opd.tmp _ _ rfl) rfl (by intro _; exact ⟨b1, b2, okx⟩) zRt_rep) ?_
      refine Run.pure (dd := some 34) rfl rfl (op_move rfl (Opd.tmp _ _ rfl)) ?_
      refine Run.pure (dd := some 39) rfl rfl (op_extract_fz rfl (Opd.tmp _ _ rfl) rfl) ?_
      refine Run.pure (dd := some 40) rfl rfl (op_extract_fz rfl (Opd.tmp _ _ rfl) rfl) ?_
      refine Run.eff (dd := some 12) rfl rfl (op_alloc rfl rfl rfl rfl) ?_
      refine Run.eff (dd := none) rfl rfl (op_store_flat rfl (Opd.tmp _ _ rfl) (Opd.tmp _ _ rfl) tC rfl rfl (by first | rfl | assumption) tS) ?_
      refine Run.pure (dd := some 13) rfl rfl (op_assign rfl (Opd.tmp _ _ rfl)) ?_
      refine Run.nil (FinR.mk ?_)
      refine nK ?_
      refine s_reg rfl ?_
      refine Run.pure (dd := some 41) rfl rfl (op_move rfl (Opd.tmp _ _ rfl)) ?_
      refine Run.pure (dd := some 42) rfl rfl (op_move rfl (Opd.tmp _ _ rfl)) ?_
      refine Run.pure (dd := some 43) rfl rfl (op_neqB rfl (Opd.tmp _ _ rfl) (Opd.tmp _ _ rfl)) ?_
      refine Run.pure (dd := some 44) rfl rfl (op_move rfl (Opd.tmp _ _ rfl)) ?_
      refine Run.pureG (dd := some 45) rfl rfl rfl tG (op_move rfl (Opd.tmp _ _ rfl)) ?_
      refine Run.pureG (dd := some 46) rfl rfl rfl tG (op_move rfl (Opd.topt _ _ _ rfl tO)) ?_
      refine Run.loadG (dd := some 47) rfl rfl rfl tG (op_loadw_flat rfl (Opd.tmp _ _ rfl) tH rfl) ?_
      refine Run.loadG (dd := some 48) rfl rfl rfl tG (op_loadw_flat rfl (Opd.tmp _ _ rfl) tH rfl) ?_
      refine Run.pureG (dd := some 49) rfl rfl rfl tG (op_call_pure (fun _ => ks) rfl (Opd.func _) (Opds.cons _ _ _ _ (Opd.topt _ _ _ rfl tO) (Opds.cons _ _ _ _ (Opd.topt _ _ _ rfl tO) Opds.nil))) ?_
      refine Run.pureG (dd := some 50) rfl rfl rfl tG (op_not rfl (Opd.topt _ _ _ rfl tO)) ?_
      refine Run.pureG (dd := some 51) rfl rfl rfl tG (op_pick_and rfl (Opd.topt _ _ _ rfl tO) (Opd.topt _ _ _ rfl tO)) ?_
      refine Run.pure (dd := some 52) rfl rfl (op_pick_or rfl (Opd.tmp _ _ rfl) (Opd.topt _ _ _ rfl tO)) ?_
      refine Run.nil (FinR.mk ?_)
      refine nK ?_
      refine n_cond _ rfl (fun hb => ?_) (fun hb => ?_)
      · rw [if_pos (hcx.symm.trans hb)] at hK1
        unfold OPf at hK1
        rw [app1, app2] at hK1
        refine nK ?_
        refine s_reg rfl ?_
        refine Run.pure (dd := some 53) rfl rfl (op_move rfl (Opd.tmp _ _ rfl)) ?_
        refine Run.pure (dd := some 54) rfl rfl (op_fld_ptr (by decide) rfl (Opd.tmp _ _ rfl)) ?_
        refine Run.load (dd := some 55) rfl rfl (op_loadn_flat rfl (Opd.tmp _ _ rfl) tH tR tR) ?_
        refine Run.pure (dd := some 56) rfl rfl (op_buildSlice_fz rfl (RowsF.cons _ _ _ _ _ _ (Opd.tmp _ _ rfl) tC (by rfl) (RowsF.nil _)) rfl rfl) ?_
        refine Run.eff (dd := some 57) rfl rfl (op_append rfl (Opd.tmp _ _ rfl) (Opd.tmp _ _ rfl) rfl (by simp) rfl rfl tB tB) ?_
        refine Run.pure (dd := some 7) rfl rfl (op_assign rfl (Opd.tmp _ _ rfl)) ?_
        refine Run.nil (FinR.mk ?_)
        refine nK ?_
        refine s_reg rfl ?_
        refine Run.pure (dd := some 58) rfl rfl (op_add rfl (Opd.tmp _ _ rfl) (Opd.const _) tI) ?_
        refine Run.pure (dd := some 23) rfl rfl (op_move rfl (Opd.tmp _ _ rfl)) ?_
        refine Run.nil (FinR.mk ?_)
        refine nK ?_
        refine Next.weakS [5, 6, 7] [] (by rfl) (by first | exact keeps0 hC _ | exact keepsN hC _ rfl) (by repeat (first | exact trivial | refine ⟨⟨_, rfl, .inl ⟨rfl, rfl⟩⟩, ?_⟩ | refine ⟨⟨_, rfl, .inl ⟨slEq rfl tN, rfl⟩⟩, ?_⟩ | refine ⟨⟨_, rfl, .inl ⟨ivEq tX, rfl⟩⟩, ?_⟩)) (by repeat (first | exact trivial | refine ⟨ent_same rfl rfl rfl tL, ?_⟩ | refine ⟨ent_same rfl rfl (rfEq rfl tU) tL, ?_⟩ | refine ⟨ent_same rfl rfl (flEq rfl (by first | (simp; done) | (simp; omega) | (simp [encHo, encRt, encP]; done) | simp [maxC, minC])) trivial, ?_⟩)) rfl (hK1)
      · rw [if_neg (by rw [← hcx]; intro h; rw [h] at hb; cases hb), List.append_nil] at hK1
        refine nK ?_
        refine s_reg rfl ?_
        refine Run.pure (dd := some 58) rfl rfl (op_add rfl (Opd.tmp _ _ rfl) (Opd.const _) tI) ?_
        refine Run.pure (dd := some 23) rfl rfl (op_move rfl (Opd.tmp _ _ rfl)) ?_
        refine Run.nil (FinR.mk ?_)
        refine nK ?_
        refine Next.weakS [5, 6, 7] [] (by rfl) (by first | exact keeps0 hC _ | exact keepsN hC _ rfl) (by repeat (first | exact trivial | refine ⟨⟨_, rfl, .inl ⟨rfl, rfl⟩⟩, ?_⟩ | refine ⟨⟨_, rfl, .inl ⟨slEq rfl tN, rfl⟩⟩, ?_⟩ | refine ⟨⟨_, rfl, .inl ⟨ivEq tX, rfl⟩⟩, ?_⟩)) (by repeat (first | exact trivial | refine ⟨ent_same rfl rfl rfl tL, ?_⟩ | refine ⟨ent_same rfl rfl (rfEq rfl tU) tL, ?_⟩ | refine ⟨ent_same rfl rfl (flEq rfl (by first | (simp; done) | (simp; omega) | (simp [encHo, encRt, encP]; done) | simp [maxC, minC])) trivial, ?_⟩)) rfl (hK1)
    · have hie : i = c.length := by simp at hb; omega
      clear hK
      rw [hie, List.take_length] at *
      refine nK ?_
      refine Next.weakS [] [7] (by rfl) (keeps0 hC _) (G' := [(7, .fz (VP (chgT f c)))]) (H' := []) (by repeat (first | exact trivial | refine ⟨⟨_, rfl, .inl ⟨rfl, rfl⟩⟩, ?_⟩ | refine ⟨⟨_, rfl, .inl ⟨slEq rfl tN, rfl⟩⟩, ?_⟩ | refine ⟨⟨_, rfl, .inl ⟨ivEq tX, rfl⟩⟩, ?_⟩ | refine ⟨⟨_, rfl, .inr ⟨_, rfl, tW⟩⟩, ?_⟩)) trivial rfl ?_
      have hq := chgT_len f c
      have kso := psort_c (chgT f c) (by omega)
      refine nK ?_
      refine s_reg rfl ?_
      refine Run.pure (dd := some 59) rfl rfl (op_move rfl (Opd.tmp _ _ rfl)) ?_
      refine Run.pure (dd := some 60) rfl rfl (op_call_pure (fun _ => kso) rfl (Opd.func _) (Opds.cons _ _ _ _ (Opd.tmp _ _ rfl) Opds.nil)) ?_
      refine Run.pure (dd := some 4) rfl rfl (op_assign rfl (Opd.tmp _ _ rfl)) ?_
      refine Run.nil (FinR.mk ?_)
      refine nK ?_
      (first | exact s_o1 hC rfl tV | exact s_o2 hC rfl tV tV | exact s_o3 hC rfl tV tV tV | exact s_o4 hC rfl tV tV tV tV | exact s_out0 hC rfl | exact s_outO hC rfl rfl rfl)
end Go.Proofs.Ytinddhlmgiahiaa
