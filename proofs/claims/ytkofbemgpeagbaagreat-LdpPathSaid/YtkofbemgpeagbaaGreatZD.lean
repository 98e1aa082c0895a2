/- A part of the proof: GP6, GP7, GP8, GP9, GP10, DP1, DP2, DP3, DP4, DP5, E1, DP6, E2, DP7, E3, E4, E5, DP8, E6, DP9, E7, E8, DP10. -/
import Derived.Test.YtkofbemgpeagbaaGreatZC
set_option linter.all false
/- The reference's search: passes over all edges. -/
namespace Go.Pl
open Go.RT
set_option linter.all false
/-- one edge of a pass -/
def passE (out : List Bool) (e : Edg) : List Bool := if out[e.f.toNat]? = some true then out.set e.t.toNat true else out
def pass (es : List Edg) (out : List Bool) : List Bool := es.foldl passE out
theorem passE_len (out : List Bool) (e : Edg) : (passE out e).length = out.length := by unfold passE; split <;> simp
theorem pass_len : ∀ (es : List Edg) (out : List Bool), (pass es out).length = out.length
  | [], out => rfl
  | e :: es, out => by
    show (pass es (passE out e)).length = _
    rw [pass_len es, passE_len]
theorem passE_mono {out : List Bool} {e : Edg} {v : Nat} (h : out[v]? = some true) : (passE out e)[v]? = some true := by
  unfold passE; split
  · exact set_true h
  · exact h
theorem pass_mono : ∀ {es : List Edg} {out : List Bool} {v : Nat}, out[v]? = some true → (pass es out)[v]? = some true
  | [], out, v, h => h
  | e :: es, out, v, h => pass_mono (es := es) (passE_mono h)
theorem cntT_cons (x : Bool) (l : List Bool) : cntT (x :: l) = cntT l + if x = true then 1 else 0 := by
  unfold cntT; rw [List.countP_cons]; cases x <;> rfl
theorem cnt_mono : ∀ {a b : List Bool}, a.length = b.length → (∀ v : Nat, a[v]? = some true → b[v]? = some true) → cntT a ≤ cntT b ∧ (cntT a = cntT b → a = b)
  | [], [], _, _ => ⟨Nat.le_refl _, fun _ => rfl⟩
  | [], _ :: _, h, _ => by simp at h
  | _ :: _, [], h, _ => by simp at h
  | x :: a, y :: b, hl, h => by
    obtain ⟨i1, i2⟩ := cnt_mono (a := a) (b := b) (by simpa using hl) (fun v hv => by simpa using h (v + 1) (by simpa using hv))
    have h0 := h 0
    simp only [List.getElem?_cons_zero, Option.some.injEq] at h0
    rw [cntT_cons, cntT_cons]
    cases x <;> cases y
    · exact ⟨by simpa using i1, fun hh => by rw [i2 (by simpa using hh)]⟩
    · exact ⟨by simp; omega, fun hh => by simp at hh; omega⟩
    · simp at h0
    · exact ⟨by simpa using i1, fun hh => by rw [i2 (by simpa using hh)]⟩
/-- a pass that changes nothing: closed under the edges -/
theorem pass_fix : ∀ {es : List Edg} {out : List Bool}, pass es out = out → (∀ e ∈ es, 0 ≤ e.t ∧ e.t.toNat < out.length) → ∀ e ∈ es, out[e.f.toNat]? = some true → out[e.t.toNat]? = some true := by
  intro es out h hin
  -- every prefix of the pass leaves the list as it is
  have key : ∀ (es : List Edg) (out o : List Bool), o.length = out.length → (∀ v : Nat, out[v]? = some true → o[v]? = some true) → pass es o = out → (∀ e ∈ es, 0 ≤ e.t ∧ e.t.toNat < out.length) → o = out ∧ ∀ e ∈ es, out[e.f.toNat]? = some true → out[e.t.toNat]? = some true := by
    intro es
    induction es with
    | nil => intro out o _ _ h _; exact ⟨h, fun e he => by cases he⟩
    | cons e es ih =>
      intro out o hl hm hp hin
      have hp' : pass es (passE o e) = out := hp
      obtain ⟨i1, i2⟩ := ih out (passE o e) (by rw [passE_len]; exact hl) (fun v hv => passE_mono (hm v hv)) hp' (fun e' he' => hin e' (List.mem_cons_of_mem _ he'))
      have hle : ∀ v : Nat, o[v]? = some true → out[v]? = some true := fun v hv => by rw [← i1]; exact passE_mono hv
      have hoe : o = out := by
        have c1 := (cnt_mono hl hle)
        have c2 := (cnt_mono hl.symm hm)
        exact c1.2 (Nat.le_antisymm c1.1 c2.1)
      refine ⟨hoe, fun e' he' hf => ?_⟩
      rcases List.mem_cons.1 he' with rfl | he'
      · subst hoe
        unfold passE at i1
        rw [if_pos hf] at i1
        have := hin e' (List.mem_cons_self ..)
        rw [← i1, List.getElem?_set, if_pos rfl, if_pos this.2]
      · exact i2 e' he' hf
  exact (key es out out rfl (fun v h => h) h hin).2
/-- what the passes keep -/
structure Pas (g : Gr) (a : Int) (out : List Bool) : Prop where
  len : out.length = (g.r + g.n).toNat
  from_ : out[a.toNat]? = some true
  sound : ∀ v : Nat, out[v]? = some true → Rch g.es a (v : Int)
theorem Pas.stepE {g : Gr} {a : Int} {out : List Bool} {e : Edg} (h : Pas g a out) (he : e ∈ g.es) (h0 : 0 ≤ e.f ∧ 0 ≤ e.t) : Pas g a (passE out e) := by
  refine ⟨by rw [passE_len]; exact h.len, passE_mono h.from_, fun v hv => ?_⟩
  unfold passE at hv
  split at hv
  · rename_i hf
    rw [List.getElem?_set] at hv
    split at hv
    · rename_i e2
      have := h.sound _ hf
      rw [Int.toNat_of_nonneg h0.1] at this
      rw [← e2, Int.toNat_of_nonneg h0.2]
      exact .step e he this
    · exact h.sound v hv
  · exact h.sound v hv
theorem Pas.pass {g : Gr} {a : Int} : ∀ {es : List Edg} {out : List Bool}, Pas g a out → (∀ e ∈ es, e ∈ g.es ∧ 0 ≤ e.f ∧ 0 ≤ e.t) → Pas g a (Pl.pass es out)
  | [], out, h, _ => h
  | e :: es, out, h, he => Pas.pass (es := es) (h.stepE (he e (List.mem_cons_self ..)).1 (he e (List.mem_cons_self ..)).2) (fun e' h' => he e' (List.mem_cons_of_mem _ h'))
/-- after k passes: closed, or more than k nodes marked -/
def Far (g : Gr) (out : List Bool) (k : Nat) : Prop := (∀ e ∈ g.es, out[e.f.toNat]? = some true → out[e.t.toNat]? = some true) ∨ k + 1 ≤ cntT out
theorem Far.next {g : Gr} {out : List Bool} {k : Nat} (h : Far g out k) (hin : ∀ e ∈ g.es, 0 ≤ e.t ∧ e.t.toNat < out.length) : Far g (pass g.es out) (k + 1) := by
  by_cases hf : pass g.es out = out
  · rw [hf]; exact .inl (pass_fix hf hin)
  · have hc := cnt_mono (a := out) (b := pass g.es out) (pass_len _ _).symm (fun v => pass_mono)
    have hlt : cntT out < cntT (pass g.es out) := by
      rcases Nat.lt_or_ge (cntT out) (cntT (pass g.es out)) with h1 | h1
      · exact h1
      · exact absurd (hc.2 (by omega)).symm hf
    rcases h with h | h
    · -- closed already: a pass changes nothing
      exfalso
      apply hf
      have : ∀ (es : List Edg), (∀ e ∈ es, e ∈ g.es) → pass es out = out := by
        intro es
        induction es with
        | nil => exact fun _ => rfl
        | cons e es ih =>
          intro hes
          have hee := hes e (List.mem_cons_self ..)
          have he : passE out e = out := by
            unfold passE
            split
            · rename_i ht
              have hh := h e hee ht
              obtain ⟨q1, q2⟩ := List.getElem?_eq_some_iff.1 hh
              rw [← q2]; exact List.set_getElem_self q1
            · rfl
          show pass es (passE out e) = out
          rw [he]; exact ih fun e' h' => hes e' (List.mem_cons_of_mem _ h')
      exact this g.es fun e h => h
    · exact .inr (by omega)
end Go.Pl
/- The valid graph of edges, as the reference puts it together. -/
namespace Go.Pl
open Go.RT
set_option linter.all false
end Go.Pl
/- Elements that a test holds for are dropped. -/
namespace Go.Pl
set_option linter.all false
def keepL {α : Type} (p : α → Bool) (l : List α) : List α := l.filter fun x => !p x
def idxAt {α : Type} (p : α → Bool) : Nat → List α → Int
  | _, [] => -1
  | k, x :: l => bif p x then (k : Int) else idxAt p (k + 1) l
theorem idxAt_spec {α : Type} (p : α → Bool) : ∀ (l : List α) (k : Nat), (idxAt p k l = -1 ∧ keepL p l = l) ∨ ∃ j : Nat, ∃ h : j < l.length, idxAt p k l = ((k + j : Nat) : Int) ∧ p l[j] = true ∧ keepL p (l.take j) = l.take j
  | [], k => .inl ⟨rfl, rfl⟩
  | x :: l, k => by
    cases hx : p x with
    | true => exact .inr ⟨0, by simp, by simp [idxAt, hx], by simpa using hx, by simp [keepL]⟩
    | false =>
      have e : idxAt p k (x :: l) = idxAt p (k + 1) l := by simp [idxAt, hx]
      rw [e]
      rcases idxAt_spec p l (k + 1) with ⟨h1, h2⟩ | ⟨j, hj, h1, h2, h3⟩
      · refine .inl ⟨h1, ?_⟩
        unfold keepL at *; simp [hx, h2]
      · refine .inr ⟨j + 1, by simpa using hj, by rw [h1]; omega, by simpa using h2, ?_⟩
        unfold keepL at *; simp [hx, h3]
theorem keep_len {α : Type} (p : α → Bool) (l : List α) : (keepL p l).length ≤ l.length := List.length_filter_le _ _
theorem keep_take {α : Type} (p : α → Bool) (l : List α) (n : Nat) (h : n < l.length) : keepL p (l.take (n + 1)) = keepL p (l.take n) ++ bif p l[n] then [] else [l[n]] := by
  unfold keepL
  rw [List.take_succ_eq_append_getElem h, List.filter_append]
  congr 1
  cases hp : p l[n] <;> simp [hp]
theorem keep_len_lt {α : Type} (p : α → Bool) (l : List α) (j : Nat) (h : j < l.length) (hp : p l[j] = true) (n : Nat) (hn : j < n) (hnl : n ≤ l.length) : (keepL p (l.take n)).length < n := by
  obtain ⟨d, rfl⟩ : ∃ d, n = j + 1 + d := ⟨n - (j + 1), by omega⟩
  clear hn
  induction d with
  | zero =>
    rw [Nat.add_zero, keep_take p l j h, hp, cond_true, List.append_nil]
    have := keep_len p (l.take j)
    simp at this; omega
  | succ d ih =>
    have := ih (by omega)
    rw [← Nat.add_assoc, keep_take p l (j + 1 + d) (by omega), List.length_append]
    cases p l[j + 1 + d] <;> simp <;> omega
end Go.Pl
namespace Go.Pl
set_option linter.all false
/-- binary search: the least place in [i, j) whose element is not below -/
def bsGo {α : Type} (p : α → Bool) (l : List α) (i j : Nat) : Nat :=
  if h : i < j then
    (if h2 : (i + j) / 2 < l.length then
      (bif p l[(i + j) / 2] then bsGo p l ((i + j) / 2 + 1) j else bsGo p l i ((i + j) / 2))
    else i)
  else i
termination_by j - i
theorem bsGo_end {α : Type} (p : α → Bool) (l : List α) (i : Nat) : bsGo p l i i = i := by
  rw [bsGo]; simp
theorem bsGo_step {α : Type} (p : α → Bool) (l : List α) (i j : Nat) (h : i < j) (hj : j ≤ l.length) :
    bsGo p l i j = (bif p (l[(i + j) / 2]'(by omega)) then bsGo p l ((i + j) / 2 + 1) j else bsGo p l i ((i + j) / 2)) := by
  rw [bsGo]; simp [h, show (i + j) / 2 < l.length by omega]
def hitAt {α : Type} (p : α → Bool) (l : List α) (i : Nat) : Bool := match l[i]? with | some e => p e | none => false
theorem bsGo_le {α : Type} (p : α → Bool) (l : List α) : ∀ (n i j : Nat), j - i ≤ n → i ≤ j → j ≤ l.length → i ≤ bsGo p l i j ∧ bsGo p l i j ≤ j
  | n, i, j, hn, hi, hj => by
    rw [bsGo]
    by_cases h : i < j
    · have hm : (i + j) / 2 < l.length := by omega
      simp only [h, hm, dif_pos]
      cases n with
      | zero => omega
      | succ n =>
        cases p l[(i + j) / 2] with
        | true => have := bsGo_le p l n ((i + j) / 2 + 1) j (by omega) (by omega) hj; simp only [cond_true]; omega
        | false => have := bsGo_le p l n i ((i + j) / 2) (by omega) (by omega) (by omega); simp only [cond_false]; omega
    · simp only [h, dif_neg, not_false_eq_true]; omega
/-- over a list on which p is first true and then false -/
theorem bsGo_spec {α : Type} (p : α → Bool) (l : List α) (hm : ∀ a b (ha : a < b) (hb : b < l.length), p l[b] = true → p (l[a]'(by omega)) = true) :
    ∀ (n i j : Nat), j - i ≤ n → (hi : i ≤ j) → (hj : j ≤ l.length) →
      (∀ k (hk : k < i), p (l[k]'(by omega)) = true) → (∀ k (hk : j ≤ k) (hl : k < l.length), p l[k] = false) →
      (∀ k (hk : k < bsGo p l i j) (hl : k < l.length), p l[k] = true) ∧ (∀ k (hk : bsGo p l i j ≤ k) (hl : k < l.length), p l[k] = false)
  | n, i, j, hn, hi, hj, h1, h2 => by
    rw [bsGo]
    by_cases h : i < j
    · have hmm : (i + j) / 2 < l.length := by omega
      simp only [h, hmm, dif_pos]
      cases n with
      | zero => omega
      | succ n =>
        cases hp : p l[(i + j) / 2] with
        | true =>
          simp only [cond_true]
          refine bsGo_spec p l hm n ((i + j) / 2 + 1) j (by omega) (by omega) hj ?_ h2
          intro k hk
          by_cases e : k = (i + j) / 2
          · subst e; exact hp
          · exact hm k ((i + j) / 2) (by omega) hmm hp
        | false =>
          simp only [cond_false]
          refine bsGo_spec p l hm n i ((i + j) / 2) (by omega) (by omega) (by omega) h1 ?_
          intro k hk hl
          by_cases e : k = (i + j) / 2
          · subst e; exact hp
          · cases hq : p l[k] with
            | false => rfl
            | true => have := hm ((i + j) / 2) k (by omega) hl hq; rw [hp] at this; exact absurd this (by simp)
    · simp only [h, dif_neg, not_false_eq_true]
      have : i = j := by omega
      exact ⟨fun k hk _ => h1 k hk, fun k hk hl => h2 k (by omega) hl⟩
end Go.Pl
namespace Go.Pl
theorem hitAt_eq {α : Type} [Inhabited α] (l : List α) (i : Nat) (p : α → Bool) : ∃ q, (i < l.length → l[i]? = some q) ∧ hitAt p l i = (decide ((i : Int) < (l.length : Int)) && p q) := by
  by_cases h : i < l.length
  · exact ⟨l[i], fun _ => List.getElem?_eq_getElem h, by simp [hitAt, h]⟩
  · exact ⟨default, fun h' => absurd h' h, by simp [hitAt, h]⟩
open Go.RT
def zE : Edg := ⟨0, 0, 0⟩
end Go.Pl
namespace Go.Pl
set_option linter.all false
/-- x put in ahead of place i -/
def insL {α : Type} (l : List α) (i : Nat) (x : α) : List α := l.take i ++ x :: l.drop i
theorem insL_len {α : Type} (l : List α) (i : Nat) (x : α) (h : i ≤ l.length) : (insL l i x).length = l.length + 1 := by simp [insL]; omega
theorem insL_map {α β : Type} (f : α → β) (l : List α) (i : Nat) (x : α) : (insL l i x).map f = insL (l.map f) i (f x) := by simp [insL]
/-- the rows behind the copies of slices.Insert, where it grows -/
theorem ins_grow {β : Type} (l : List β) (i : Nat) (x z : β) (h : i < l.length) :
    (((l.take i ++ List.replicate (l.length + 1 - i) z).take i ++ [x] ++ (l.take i ++ List.replicate (l.length + 1 - i) z).drop (i + 1)).take (i + 1) ++ l.drop i ++
      ((l.take i ++ List.replicate (l.length + 1 - i) z).take i ++ [x] ++ (l.take i ++ List.replicate (l.length + 1 - i) z).drop (i + 1)).drop (i + 1 + (l.length - i))) = insL l i x := by
  have h1 : (l.take i).length = i := by simp; omega
  have e1 : (l.take i ++ List.replicate (l.length + 1 - i) z).take i = l.take i := by rw [List.take_append_of_le_length (by omega), List.take_take]; simp
  rw [e1]
  generalize hd : (l.take i ++ List.replicate (l.length + 1 - i) z).drop (i + 1) = d
  have hdl : d.length = l.length - i := by rw [← hd]; simp; omega
  have h2 : (l.take i ++ [x]).length = i + 1 := by simp; omega
  have e2 : (l.take i ++ [x] ++ d).take (i + 1) = l.take i ++ [x] := by rw [List.take_append_of_le_length (by omega), List.take_of_length_le (by omega)]
  have e3 : (l.take i ++ [x] ++ d).drop (i + 1 + (l.length - i)) = [] := List.drop_of_length_le (by rw [List.length_append, h2, hdl]; omega)
  rw [e2, e3]
  simp [insL]
/-- .. where there is room -/
theorem ins_room {β : Type} (l : List β) (i : Nat) (x : β) (h : i < l.length) :
    ((l.take (i + 1) ++ l.drop i ++ l.drop (i + 1 + (l.length - i))).take i ++ [x] ++ (l.take (i + 1) ++ l.drop i ++ l.drop (i + 1 + (l.length - i))).drop (i + 1)) = insL l i x := by
  have e0 : l.drop (i + 1 + (l.length - i)) = [] := List.drop_of_length_le (by omega)
  have h1 : (l.take (i + 1)).length = i + 1 := by simp; omega
  rw [e0, List.append_nil]
  have e1 : (l.take (i + 1) ++ l.drop i).take i = l.take i := by rw [List.take_append_of_le_length (by omega), List.take_take, Nat.min_eq_left (by omega)]
  have e2 : (l.take (i + 1) ++ l.drop i).drop (i + 1) = l.drop i := by rw [List.drop_append_of_le_length (by omega), List.drop_of_length_le (by omega)]; rfl
  rw [e1, e2]
  simp [insL]
theorem hitAt_lt {α : Type} {p : α → Bool} {l : List α} {i : Nat} (h : hitAt p l i = true) : ∃ h : i < l.length, p l[i] = true := by
  unfold hitAt at h
  cases hi : l[i]? with
  | none => rw [hi] at h; cases h
  | some e =>
    rw [hi] at h
    obtain ⟨h1, h2⟩ := List.getElem?_eq_some_iff.1 hi
    exact ⟨h1, by rw [h2]; exact h⟩
end Go.Pl
/- Label distribution: messages, labels, bindings, states. No program in sight. -/
namespace Go.Pl
open Go Go.RT
set_option linter.all false
structure Rg where
  f : Int
  t : Int
  deriving DecidableEq
structure Bnd where
  px : Pfx
  pe : Int
  la : Int
  deriving DecidableEq
structure Fec where
  px : Pfx
  lo : Bool
  hs : List Int
  deriving DecidableEq
structure Msg where
  k : Int
  px : Pfx
  la : Int
  deriving DecidableEq
structure Snd where
  pe : Int
  da : List Int
  deriving DecidableEq
structure Lst where
  ro : Int
  fr : List Rg
  lc : List Bnd
  rm : List Bnd
  ps : List Int
  rt : List Fec
  deriving DecidableEq
structure Lev where
  k : Int
  pe : Int
  da : List Int
  rt : List Fec
  deriving DecidableEq
structure LHo where
  ro : Int
  la : Int
  deriving DecidableEq
structure LEn where
  i : Int
  hs : List LHo
  deriving DecidableEq
def encRg (r : Rg) : List FV := [If .i64 r.f, If .i64 r.t]
abbrev VRg (l : List Rg) : FV := .vals 2 (l.map encRg)
def encBn (b : Bnd) : List FV := [If .u32 b.px.addr, If .i64 b.px.len, If .u32 b.pe, If .i64 b.la]
abbrev VBn (l : List Bnd) : FV := .vals 4 (l.map encBn)
def encFe (x : Fec) : List FV := [If .u32 x.px.addr, If .i64 x.px.len, Bf x.lo, VW x.hs]
abbrev VFe (l : List Fec) : FV := .vals 4 (l.map encFe)
def encMs (m : Msg) : List FV := [If .i64 m.k, If .u32 m.px.addr, If .i64 m.px.len, If .i64 m.la]
def encSn (s : Snd) : List FV := [If .u32 s.pe, VY s.da]
abbrev VSn (l : List Snd) : FV := .vals 2 (l.map encSn)
def encLs (s : Lst) : List FV := [If .u32 s.ro, VRg s.fr, VBn s.lc, VBn s.rm, VW s.ps, VFe s.rt]
def encEv (e : Lev) : List FV := [If .i64 e.k, If .u32 e.pe, VY e.da, VFe e.rt]
def encLh (h : LHo) : List FV := [If .u32 h.ro, If .i64 h.la]
abbrev VLh (l : List LHo) : FV := .vals 2 (l.map encLh)
def encLe (e : LEn) : List FV := [If .i64 e.i, VLh e.hs]
abbrev VLe (l : List LEn) : FV := .vals 2 (l.map encLe)
/-! messages -/
def msgE (m : Msg) : Int :=
  if (decide (m.k < 1) || decide (4 < m.k)) = true then 15 else if (!validB m.px) = true then 1 else
  if (decide (m.k = 4) && decide (m.la ≠ 0)) = true then 5 else if (decide (m.k ≠ 4) && decide (m.la ≠ 3) && (decide (m.la < 16) || decide (1048575 < m.la))) = true then 5 else 0
def be4 (n : Int) : List Int := [n / 16777216 % 256, n / 65536 % 256, n / 256 % 256, n % 256]
def encMb (m : Msg) : List Int := [m.k % 256, m.px.len % 256] ++ be4 m.px.addr ++ if m.k ≠ 4 then be4 m.la else []
def encodeF (m : Msg) : List Int × Int := if msgE m ≠ 0 then ([], msgE m) else (encMb m, 0)
def zMsg : Msg := ⟨0, ⟨0, 0⟩, 0⟩
def num4 (b : List Int) (i : Nat) : Int := ((b.drop i).take 4).foldl (fun x c => x * 256 + c) 0
def rawM (b : List Int) : Msg := ⟨b.getD 0 0, ⟨(num4 b 2).toNat, b.getD 1 0⟩, if b.getD 0 0 = 4 then 0 else num4 b 6⟩
def sizeM (k : Int) : Nat := if k = 4 then 6 else 10
def decodeF (b : List Int) : Msg × Int :=
  if b.length = 0 then (zMsg, 3) else
  if (decide (b.getD 0 0 < 1) || decide (4 < b.getD 0 0)) = true then (zMsg, 15) else
  if b.length < sizeM (b.getD 0 0) then (zMsg, 3) else if sizeM (b.getD 0 0) < b.length then (zMsg, 2) else
  if msgE (rawM b) ≠ 0 then (zMsg, msgE (rawM b)) else (rawM b, 0)
/-! free labels -/
def badG : Option Rg → Rg → Bool
  | none, _ => false
  | some q, r => decide (r.f ≤ q.t + 1)
def rgE (r : Rg) : Int := if (decide (r.f < 16) || decide (1048575 < r.t)) = true then 5 else if r.t < r.f then 1 else 0
def chkG : Option Rg → List Rg → Int
  | _, [] => 0
  | p, r :: t => if rgE r ≠ 0 then rgE r else if badG p r = true then 16 else chkG (some r) t
def lblE (l : List Rg) : Int := chkG none l
def inG (n : Int) (r : Rg) : Bool := decide (r.f ≤ n) && decide (n ≤ r.t)
def hasG (l : List Rg) (n : Int) : Bool := decide (lblE l = 0) && l.any (inG n)
def takeL : List Rg → List Rg
  | [] => []
  | r :: t => if r.f = r.t then t else ⟨r.f + 1, r.t⟩ :: t
def takeF (l : List Rg) : Int × List Rg × Int :=
  if lblE l ≠ 0 then (0, [], lblE l) else match l with | [] => (0, [], 8) | r :: t => (r.f, takeL (r :: t), 0)
/-- the runs with a label put in -/
def giveL (l : List Rg) (n : Int) : List Rg :=
  match l with
  | [] => [⟨n, n⟩]
  | r :: t => if r.t < n - 1 then r :: giveL t n else
    if r.t = n - 1 then (match t with | [] => [⟨r.f, n⟩] | q :: u => if q.f = n + 1 then ⟨r.f, q.t⟩ :: u else ⟨r.f, n⟩ :: q :: u) else
    if r.f = n + 1 then ⟨n, r.t⟩ :: t else ⟨n, n⟩ :: r :: t
def giveF (l : List Rg) (n : Int) : List Rg × Int :=
  if lblE l ≠ 0 then ([], lblE l) else if (decide (n < 16) || decide (1048575 < n)) = true then ([], 5) else if l.any (inG n) = true then ([], 7) else (giveL l n, 0)
/-! bindings -/
def isBn (p : Pfx) (n : Int) (b : Bnd) : Bool := decide (b.px = p) && decide (b.pe = n)
def findB (l : List Bnd) (p : Pfx) (n : Int) : Option Int := (l.find? (isBn p n)).map (·.la)
def unbL (l : List Bnd) (p : Pfx) (n : Int) : List Bnd := l.filter fun b => !isBn p n b
def grB (a b : Bnd) : Bool := decide (0 < cmpP a.px b.px) || decide (cmpP a.px b.px = 0) && decide (b.pe < a.pe)
def insB (b : Bnd) : List Bnd → List Bnd
  | [] => [b]
  | x :: t => if grB x b = true then b :: x :: t else x :: insB b t
def bindL (l : List Bnd) (b : Bnd) : List Bnd := insB b (unbL l b.px b.pe)
/-! routes -/
def hopX (r h : Int) : Bool := decide (h = 0) || decide (h = r)
def leI : Option Int → Int → Bool
  | none, _ => false
  | some q, x => decide (x ≤ q)
def ascI : Option Int → List Int → Int
  | _, [] => 0
  | p, x :: t => if leI p x = true then 16 else ascI (some x) t
def hopsE (r : Int) (l : List Int) : Int := if 64 < l.length then 4 else if l.any (hopX r) = true then 5 else ascI none l
def badX : Option Fec → Fec → Bool
  | none, _ => false
  | some q, x => decide (0 ≤ cmpP q.px x.px)
def rtsE (r : Int) : Option Fec → List Fec → Int
  | _, [] => 0
  | p, x :: t => if (!validB x.px) = true then 1 else if badX p x = true then 16 else if hopsE r x.hs ≠ 0 then hopsE r x.hs else rtsE r (some x) t
def routesE (r : Int) (l : List Fec) : Int := if 2000 < l.length then 4 else rtsE r none l
def routeF (l : List Fec) (p : Pfx) : Option Fec := l.find? fun x => decide (x.px = p)
/-! events -/
def msgS (n k : Int) (p : Pfx) (la : Int) : Snd := ⟨n, (encodeF ⟨k, p, la⟩).1⟩
def insI (n : Int) : List Int → List Int
  | [] => [n]
  | x :: t => if n < x then n :: x :: t else x :: insI n t
abbrev Res := Lst × List Snd × Int
def zLst : Lst := ⟨0, [], [], [], [], []⟩
def badR (e : Int) : Res := (zLst, [], e)
def upF (s : Lst) (n : Int) : Res :=
  if (decide (n = 0) || decide (n = s.ro)) = true then badR 5 else if s.ps.contains n = true then badR 7 else
  ({ s with ps := insI n s.ps }, s.lc.map fun b => msgS n 1 b.px b.la, 0)
def downF (s : Lst) (n : Int) : Res :=
  if s.ps.contains n = false then badR 6 else ({ s with ps := s.ps.filter fun x => decide (x ≠ n), rm := s.rm.filter fun b => decide (b.pe ≠ n) }, [], 0)
def dataF (s : Lst) (n : Int) (d : List Int) : Res :=
  if s.ps.contains n = false then badR 6 else if (decodeF d).2 ≠ 0 then badR (decodeF d).2 else
  let m := (decodeF d).1
  if m.k = 1 then ({ s with rm := bindL s.rm ⟨m.px, n, m.la⟩ }, [], 0) else
  if m.k = 2 then (if findB s.rm m.px n = some m.la then ({ s with rm := unbL s.rm m.px n }, [msgS n 3 m.px m.la], 0) else (s, [], 0)) else
  if m.k = 4 then (match findB s.lc m.px s.ro with | some la => (s, [msgS n 1 m.px la], 0) | none => (s, [], 0)) else (s, [], 0)
def okB (l : List Fec) (b : Bnd) : Bool := match routeF l b.px with | some x => decide (x.lo = decide (b.la = 3)) | none => false
/-- free labels, what is kept, what is sent -/
abbrev DSt := List Rg × List Bnd × List Snd
def dropS (ps : List Int) (l : List Fec) (s : DSt) (b : Bnd) : DSt :=
  if okB l b = true then (s.1, s.2.1 ++ [b], s.2.2) else (if b.la ≠ 3 then (giveF s.1 b.la).1 else s.1, s.2.1, s.2.2 ++ ps.map fun n => msgS n 2 b.px b.la)
/-- what the reference makes of what is free -/
def dropF (s : Lst) (l : List Fec) : DSt := s.lc.foldl (dropS s.ps l) (s.fr, [], [])
def bindS (r : Int) (ps : List Int) (s : DSt) (x : Fec) : DSt :=
  if (findB s.2.1 x.px r).isSome = true then s else
  if x.lo = true then (s.1, bindL s.2.1 ⟨x.px, r, 3⟩, s.2.2 ++ ps.map fun n => msgS n 1 x.px 3) else
  if (takeF s.1).2.2 ≠ 0 then s else ((takeF s.1).2.1, bindL s.2.1 ⟨x.px, r, (takeF s.1).1⟩, s.2.2 ++ ps.map fun n => msgS n 1 x.px (takeF s.1).1)
def bindF (s : Lst) (l : List Fec) (d : DSt) : DSt := l.foldl (bindS s.ro s.ps) d
def routesF (s : Lst) (l : List Fec) : Res :=
  if routesE s.ro l ≠ 0 then badR (routesE s.ro l) else
  let d := bindF s l (dropF s l)
  ({ s with fr := d.1, lc := d.2.1, rt := l }, d.2.2, 0)
def handleF (s : Lst) (e : Lev) : Res :=
  if e.k = 1 then upF s e.pe else if e.k = 2 then downF s e.pe else if e.k = 3 then dataF s e.pe e.da else if e.k = 4 then routesF s e.rt else badR 15
def newF (r : Int) (l : List Rg) : Lst × Int := if r = 0 then (zLst, 5) else if lblE l ≠ 0 then (zLst, lblE l) else (⟨r, l, [], [], [], []⟩, 0)
/-! what is forwarded -/
def hopsF (s : Lst) (p : Pfx) (l : List Int) : List LHo := l.filterMap fun h => (findB s.rm p h).map fun la => ⟨h, if la = 3 then -1 else la⟩
def outF (s : Lst) (p : Pfx) : List LHo := match routeF s.rt p with | some x => hopsF s p x.hs | none => []
def insE (e : LEn) : List LEn → List LEn
  | [] => [e]
  | x :: t => if e.i < x.i then e :: x :: t else x :: insE e t
def entrF (s : Lst) : List LEn := s.lc.foldl (fun o b => if b.la = 3 then o else insE ⟨b.la, outF s b.px⟩ o) []
end Go.Pl
/- Free labels. No program in sight. -/
namespace Go.Pl
open Go Go.RT
set_option linter.all false
def ltG (a b : Rg) : Prop := a.t + 1 < b.f
structure vR (r : Rg) : Prop where
  lo : 16 ≤ r.f
  le : r.f ≤ r.t
  hi : r.t ≤ 1048575
theorem rgE_iff (r : Rg) : rgE r = 0 ↔ vR r := by
  unfold rgE
  by_cases a : (decide (r.f < 16) || decide (1048575 < r.t)) = true
  · rw [if_pos a]; simp at a
    constructor
    · intro h; omega
    · intro h; have := h.lo; have := h.hi; omega
  · rw [if_neg a]; simp at a
    by_cases b : r.t < r.f
    · rw [if_pos b]
      constructor
      · intro h; omega
      · intro h; have := h.le; omega
    · rw [if_neg b]; exact ⟨fun _ => ⟨by omega, by omega, by omega⟩, fun _ => rfl⟩
theorem chkG_iff : ∀ (l : List Rg) (p : Option Rg), chkG p l = 0 ↔ (∀ r ∈ l, vR r) ∧ l.Pairwise ltG ∧ ∀ q, p = some q → ∀ r ∈ l, ltG q r
  | [], p => by simp [chkG]
  | r :: t, p => by
    simp only [chkG]
    by_cases a : rgE r = 0
    · rw [if_neg (by simpa using a)]
      by_cases b : badG p r = true
      · rw [if_pos b]
        constructor
        · intro h; cases h
        · rintro ⟨_, _, h⟩
          cases p with
          | none => cases b
          | some q => have := h q rfl r (List.mem_cons_self ..); simp [badG] at b; unfold ltG at this; omega
      · rw [if_neg b, chkG_iff t (some r)]
        have hv := (rgE_iff r).1 a
        constructor
        · rintro ⟨h1, h2, h3⟩
          refine ⟨fun x hx => ?_, List.pairwise_cons.2 ⟨fun x hx => h3 r rfl x hx, h2⟩, fun q hq x hx => ?_⟩
          · rcases List.mem_cons.1 hx with rfl | hx
            · exact hv
            · exact h1 x hx
          · subst hq
            have hqr : ltG q r := by simp [badG] at b; unfold ltG; omega
            rcases List.mem_cons.1 hx with rfl | hx
            · exact hqr
            · have := h3 r rfl x hx
              have := hv.le
              unfold ltG at *; omega
        · rintro ⟨h1, h2, h3⟩
          obtain ⟨h4, h5⟩ := List.pairwise_cons.1 h2
          exact ⟨fun x hx => h1 x (List.mem_cons_of_mem _ hx), h5, fun q hq x hx => by cases hq; exact h4 x hx⟩
    · rw [if_pos a]
      constructor
      · intro h; exact absurd h a
      · rintro ⟨h1, _⟩; exact absurd ((rgE_iff r).2 (h1 r (List.mem_cons_self ..))) a
/-- valid free labels -/
structure vG (l : List Rg) : Prop where
  v : ∀ r ∈ l, vR r
  a : l.Pairwise ltG
theorem lblE_iff (l : List Rg) : lblE l = 0 ↔ vG l := by
  unfold lblE
  rw [chkG_iff]
  exact ⟨fun ⟨h1, h2, _⟩ => ⟨h1, h2⟩, fun h => ⟨h.v, h.a, fun q hq => by cases hq⟩⟩
theorem vG.tl {r : Rg} {t : List Rg} (h : vG (r :: t)) : vG t := ⟨fun x hx => h.v x (List.mem_cons_of_mem _ hx), (List.pairwise_cons.1 h.a).2⟩
theorem vG.hd {r : Rg} {t : List Rg} (h : vG (r :: t)) : vR r ∧ ∀ x ∈ t, ltG r x := ⟨h.v r (List.mem_cons_self ..), (List.pairwise_cons.1 h.a).1⟩
theorem vG.cons {r : Rg} {t : List Rg} (hr : vR r) (hl : ∀ x ∈ t, ltG r x) (h : vG t) : vG (r :: t) := ⟨fun x hx => by rcases List.mem_cons.1 hx with rfl | hx; exact hr; exact h.v x hx, List.pairwise_cons.2 ⟨hl, h.a⟩⟩
theorem vG.nil : vG [] := ⟨by simp, List.Pairwise.nil⟩
/-- labels counted -/
def cntG (l : List Rg) : Int := (l.map fun r => r.t - r.f + 1).sum
def mG (l : List Rg) (n : Int) : Bool := l.any (inG n)
theorem mG_cons (r : Rg) (t : List Rg) (n : Int) : mG (r :: t) n = (inG n r || mG t n) := rfl
theorem inG_iff (n : Int) (r : Rg) : inG n r = true ↔ r.f ≤ n ∧ n ≤ r.t := by simp [inG]
theorem mG_iff (l : List Rg) (n : Int) : mG l n = true ↔ ∃ r ∈ l, r.f ≤ n ∧ n ≤ r.t := by
  unfold mG
  rw [List.any_eq_true]
  simp only [inG_iff]
theorem mG_rng {l : List Rg} (h : vG l) {n : Int} (hn : mG l n = true) : 16 ≤ n ∧ n ≤ 1048575 := by
  obtain ⟨r, hr, h1, h2⟩ := (mG_iff l n).1 hn
  have := (h.v r hr).lo; have := (h.v r hr).hi; omega
theorem takeL_ok {l : List Rg} (h : vG l) {r : Rg} {t : List Rg} (hl : l = r :: t) : vG (takeL l) ∧ (∀ n, mG (takeL l) n = (mG l n && !decide (n = r.f))) ∧ cntG (takeL l) = cntG l - 1 ∧ mG l r.f = true := by
  subst hl
  obtain ⟨hr, ht⟩ := h.hd
  have h1 := hr.lo; have h2 := hr.le; have h3 := hr.hi
  have hm : mG (r :: t) r.f = true := (mG_iff _ _).2 ⟨r, List.mem_cons_self .., by omega, by omega⟩
  have hnt : mG t r.f = false := by
    rw [Bool.eq_false_iff]
    intro hc
    obtain ⟨x, hx, k1, _⟩ := (mG_iff _ _).1 hc
    have := ht x hx
    unfold ltG at this; omega
  simp only [takeL]
  by_cases e : r.f = r.t
  · rw [if_pos e]
    refine ⟨h.tl, fun n => ?_, ?_, hm⟩
    · rw [mG_cons]
      by_cases k : n = r.f
      · subst k; simp [hnt]
      · have : inG n r = false := by simp [inG]; omega
        simp [this, k]
    · simp [cntG]; omega
  · rw [if_neg e]
    refine ⟨vG.cons ⟨by show 16 ≤ r.f + 1; omega, by show r.f + 1 ≤ r.t; omega, h3⟩ (fun x hx => ht x hx) h.tl, fun n => ?_, ?_, hm⟩
    · rw [mG_cons, mG_cons]
      by_cases k : n = r.f
      · subst k
        have : inG r.f ⟨r.f + 1, r.t⟩ = false := by simp [inG]; intro; omega
        simp [this, hnt]
      · have : inG n ⟨r.f + 1, r.t⟩ = inG n r := by
          rw [Bool.eq_iff_iff, inG_iff, inG_iff]
          show r.f + 1 ≤ n ∧ n ≤ r.t ↔ _
          omega
        simp [this, k]
    · simp [cntG]; omega
theorem giveL_ok : ∀ {l : List Rg} {n : Int}, vG l → 16 ≤ n → n ≤ 1048575 → mG l n = false → vG (giveL l n) ∧ (∀ x, mG (giveL l n) x = (mG l x || decide (x = n))) ∧ cntG (giveL l n) = cntG l + 1 ∧ ∀ q : Rg, vR q → (∀ r ∈ l, ltG q r) → q.t + 1 < n → ∀ r ∈ giveL l n, ltG q r
  | [], n, _, h1, h2, _ => by
    refine ⟨vG.cons ⟨h1, Int.le_refl _, h2⟩ (by simp) vG.nil, fun x => ?_, by simp [giveL, cntG], fun q _ _ hq r hr => ?_⟩
    · rw [Bool.eq_iff_iff]; simp [giveL, mG, inG]; omega
    · simp [giveL] at hr; subst hr; exact hq
  | r :: t, n, h, h1, h2, h3 => by
    obtain ⟨hr, ht⟩ := h.hd
    have r1 := hr.lo; have r2 := hr.le; have r3 := hr.hi
    rw [mG_cons, Bool.or_eq_false_iff] at h3
    have h3' : ¬ (r.f ≤ n ∧ n ≤ r.t) := fun k => by rw [(inG_iff n r).2 k] at h3; cases h3.1
    simp only [giveL]
    by_cases a : r.t < n - 1
    · rw [if_pos a]
      obtain ⟨k1, k2, k3, k4⟩ := giveL_ok h.tl h1 h2 h3.2
      refine ⟨vG.cons hr (k4 r hr ht (by omega)) k1, fun x => ?_, ?_, fun q hq hql hqn y hy => ?_⟩
      · rw [mG_cons, mG_cons, k2, Bool.or_assoc]
      · simp [cntG] at k3 ⊢; omega
      · rcases List.mem_cons.1 hy with rfl | hy
        · exact hql _ (List.mem_cons_self ..)
        · exact k4 q hq (fun z hz => hql z (List.mem_cons_of_mem _ hz)) hqn y hy
    · rw [if_neg a]
      by_cases b : r.t = n - 1
      · rw [if_pos b]
        cases t with
        | nil =>
          refine ⟨vG.cons ⟨r1, by show r.f ≤ n; omega, h2⟩ (by simp) vG.nil, fun x => ?_, by simp [cntG]; omega, fun q _ hql hqn y hy => ?_⟩
          · rw [Bool.eq_iff_iff]; simp [mG, inG]; omega
          · have := hql r (List.mem_cons_self ..)
            simp at hy; subst hy; exact this
        | cons q u =>
          have hrq := ht q (List.mem_cons_self ..)
          obtain ⟨hq, hu⟩ := h.tl.hd
          have q1 := hq.lo; have q2 := hq.le; have q3 := hq.hi
          unfold ltG at hrq
          dsimp only
          by_cases c : q.f = n + 1
          · rw [if_pos c]
            refine ⟨vG.cons ⟨r1, by show r.f ≤ q.t; omega, q3⟩ (fun x hx => hu x hx) h.tl.tl, fun x => ?_, by simp [cntG]; omega, fun q' hq' hql hqn y hy => ?_⟩
            · rw [mG_cons, mG_cons, mG_cons, ← Bool.or_assoc, Bool.or_assoc (inG x r || inG x q), Bool.or_comm (mG u x), ← Bool.or_assoc]
              congr 1
              rw [Bool.eq_iff_iff]; simp [inG]; omega
            · rcases List.mem_cons.1 hy with rfl | hy
              · exact hql r (List.mem_cons_self ..)
              · exact hql y (List.mem_cons_of_mem _ (List.mem_cons_of_mem _ hy))
          · rw [if_neg c]
            refine ⟨vG.cons ⟨r1, by show r.f ≤ n; omega, h2⟩ (fun x hx => ?_) h.tl, fun x => ?_, by simp [cntG]; omega, fun q' hq' hql hqn y hy => ?_⟩
            · show n + 1 < x.f
              rcases List.mem_cons.1 hx with rfl | hx
              · omega
              · have := hu x hx; unfold ltG at this; omega
            · rw [mG_cons, mG_cons r, Bool.or_assoc, Bool.or_comm (mG (q :: u) x), ← Bool.or_assoc]
              congr 1
              rw [Bool.eq_iff_iff]; simp [inG]; omega
            · rcases List.mem_cons.1 hy with rfl | hy
              · exact hql r (List.mem_cons_self ..)
              · exact hql y (List.mem_cons_of_mem _ hy)
      · rw [if_neg b]
        have hf : n < r.f := by omega
        by_cases c : r.f = n + 1
        · rw [if_pos c]
          refine ⟨vG.cons ⟨h1, by show n ≤ r.t; omega, r3⟩ (fun x hx => ht x hx) h.tl, fun x => ?_, by simp [cntG]; omega, fun q' hq' hql hqn y hy => ?_⟩
          · rw [mG_cons, mG_cons, Bool.or_assoc, Bool.or_comm (mG t x), ← Bool.or_assoc]
            congr 1
            rw [Bool.eq_iff_iff]; simp [inG]; omega
          · rcases List.mem_cons.1 hy with rfl | hy
            · exact hqn
            · exact hql y (List.mem_cons_of_mem _ hy)
        · rw [if_neg c]
          refine ⟨vG.cons ⟨h1, Int.le_refl _, h2⟩ (fun x hx => ?_) h, fun x => ?_, by simp [cntG]; omega, fun q' hq' hql hqn y hy => ?_⟩
          · show n + 1 < x.f
            rcases List.mem_cons.1 hx with rfl | hx
            · omega
            · have := ht x hx; unfold ltG at this; omega
          · rw [mG_cons, Bool.or_comm (mG (r :: t) x)]
            congr 1
            rw [Bool.eq_iff_iff]; simp [inG]; omega
          · rcases List.mem_cons.1 hy with rfl | hy
            · exact hqn
            · exact hql y hy
theorem giveL_len : ∀ (l : List Rg) (n : Int), (giveL l n).length ≤ l.length + 1
  | [], _ => by simp [giveL]
  | r :: t, n => by
    have := giveL_len t n
    simp only [giveL]
    split
    · simp; omega
    · split
      · split
        · simp
        · split <;> simp
      · split <;> simp
end Go.Pl
/- The program's and the reference's ways to take and to give labels. No program in sight. -/
namespace Go.Pl
open Go Go.RT
set_option linter.all false
/-! the program's Give: places -/
def cntLt (n : Int) : List Rg → Nat
  | [] => 0
  | r :: t => if r.t < n then cntLt n t + 1 else 0
theorem cntLt_le (n : Int) : ∀ l : List Rg, cntLt n l ≤ l.length
  | [] => Nat.le_refl _
  | r :: t => by
    have := cntLt_le n t
    simp only [cntLt]
    split
    · simp; omega
    · simp
theorem giveL_app {n : Int} : ∀ {A B : List Rg}, (∀ x ∈ A, x.t < n - 1) → giveL (A ++ B) n = A ++ giveL B n
  | [], B, _ => rfl
  | a :: A, B, h => by
    have h1 := h a (List.mem_cons_self ..)
    rw [List.cons_append]
    simp only [giveL]
    rw [if_pos h1, giveL_app fun x hx => h x (List.mem_cons_of_mem _ hx)]; rfl
/-- the first that is not below: its run is merged or not -/
def hdG (f : Int) (n : Int) : List Rg → List Rg
  | [] => [⟨f, n⟩]
  | q :: u => if q.f = n + 1 then ⟨f, q.t⟩ :: u else ⟨f, n⟩ :: q :: u
theorem giveL_hd {n : Int} {B : List Rg} (h : ∀ b ∈ B, n < b.f ∧ b.f ≤ b.t) : giveL B n = hdG n n B := by
  cases B with
  | nil => rfl
  | cons q u =>
    obtain ⟨h1, h2⟩ := h q (List.mem_cons_self ..)
    simp only [giveL, hdG]
    rw [if_neg (by omega), if_neg (by omega)]
theorem giveL_last {n : Int} {a : Rg} {B : List Rg} (ha : a.t = n - 1) : giveL (a :: B) n = hdG a.f n B := by
  simp only [giveL]
  rw [if_neg (by omega), if_pos ha]
  cases B <;> rfl
/-- l in two: below the label, above it -/
theorem cntLt_split (n : Int) : ∀ {l : List Rg}, vG l → mG l n = false → (∀ x ∈ l.take (cntLt n l), x.t < n) ∧ ∀ b ∈ l.drop (cntLt n l), n < b.f ∧ b.f ≤ b.t
  | [], _, _ => by simp [cntLt]
  | r :: t, h, hm => by
    obtain ⟨hr, ht⟩ := h.hd
    rw [mG_cons, Bool.or_eq_false_iff] at hm
    simp only [cntLt]
    by_cases a : r.t < n
    · rw [if_pos a]
      obtain ⟨k1, k2⟩ := cntLt_split n h.tl hm.2
      refine ⟨fun x hx => ?_, fun b hb => k2 b (by simpa using hb)⟩
      rw [List.take_succ_cons] at hx
      rcases List.mem_cons.1 hx with rfl | hx
      · exact a
      · exact k1 x hx
    · rw [if_neg a]
      refine ⟨by simp, fun b hb => ?_⟩
      have hn : ¬ (r.f ≤ n ∧ n ≤ r.t) := fun k => by rw [(inG_iff n r).2 k] at hm; cases hm.1
      have := hr.le
      rw [List.drop_zero] at hb
      rcases List.mem_cons.1 hb with rfl | hb
      · omega
      · have h1 := ht b hb
        have := (h.v b (List.mem_cons_of_mem _ hb)).le
        unfold ltG at h1
        omega
/-- what the program puts together: the places, the run -/
structure pgv where
  i : Nat
  j : Nat
  f : Int
  t : Int
def pgF (l : List Rg) (n : Int) : pgv :=
  let i := cntLt n l
  let a := i > 0 ∧ (l.getD (i - 1) ⟨0, 0⟩).t = n - 1
  let b := i < l.length ∧ (l.getD i ⟨0, 0⟩).f = n + 1
  ⟨if a then i - 1 else i, if b then i + 1 else i, if a then (l.getD (i - 1) ⟨0, 0⟩).f else n, if b then (l.getD i ⟨0, 0⟩).t else n⟩
def repG (l : List Rg) (i j : Nat) (r : Rg) : List Rg := l.take i ++ r :: l.drop j
theorem pgF_eq {l : List Rg} {n : Int} (h : vG l) (hm : mG l n = false) : repG l (pgF l n).i (pgF l n).j ⟨(pgF l n).f, (pgF l n).t⟩ = giveL l n := by
  obtain ⟨h1, h2⟩ := cntLt_split n h hm
  have hle := cntLt_le n l
  have hB : (l.drop (cntLt n l) = [] ∧ ¬ cntLt n l < l.length) ∨ ∃ q u, l.drop (cntLt n l) = q :: u ∧ cntLt n l < l.length ∧ l.getD (cntLt n l) ⟨0, 0⟩ = q ∧ l.drop (cntLt n l + 1) = u := by
    by_cases k : cntLt n l < l.length
    · refine .inr ⟨l[cntLt n l], l.drop (cntLt n l + 1), List.drop_eq_getElem_cons k, k, by simp [List.getD, k], rfl⟩
    · exact .inl ⟨List.drop_of_length_le (by omega), k⟩
  -- what stands behind the run
  have hT : ∀ f : Int, ⟨f, (pgF l n).t⟩ :: l.drop (pgF l n).j = hdG f n (l.drop (cntLt n l)) := fun f => by
    rcases hB with ⟨e, k⟩ | ⟨q, u, e, k, e2, e3⟩
    · simp only [pgF]
      rw [if_neg (by simp [k]), if_neg (by simp [k]), e]; rfl
    · simp only [pgF]
      rw [e2]
      by_cases c : q.f = n + 1
      · rw [if_pos ⟨k, c⟩, if_pos ⟨k, c⟩, e3, e]; simp [hdG, c]
      · rw [if_neg (by simp [c]), if_neg (by simp [c]), e]; simp [hdG, c]
  unfold repG
  rw [hT]
  by_cases a : cntLt n l > 0 ∧ (l.getD (cntLt n l - 1) ⟨0, 0⟩).t = n - 1
  · have e1 : (pgF l n).i = cntLt n l - 1 := by simp only [pgF]; rw [if_pos a]
    have e2 : (pgF l n).f = (l.getD (cntLt n l - 1) ⟨0, 0⟩).f := by simp only [pgF]; rw [if_pos a]
    rw [e1, e2]
    have hk : cntLt n l - 1 < l.length := by omega
    have hg : l.getD (cntLt n l - 1) ⟨0, 0⟩ = l[cntLt n l - 1] := by simp [List.getD, hk]
    rw [hg] at a ⊢
    have hl : l = l.take (cntLt n l - 1) ++ l[cntLt n l - 1] :: l.drop (cntLt n l) := by
      have h3 : l.drop (cntLt n l - 1) = l[cntLt n l - 1] :: l.drop (cntLt n l) := by
        rw [List.drop_eq_getElem_cons hk, show cntLt n l - 1 + 1 = cntLt n l by omega]
      rw [← h3, List.take_append_drop]
    have hA : ∀ x ∈ l.take (cntLt n l - 1), x.t < n - 1 := fun x hx => by
      have hp := h.a
      rw [hl] at hp
      have := (List.pairwise_append.1 hp).2.2 x hx _ (List.mem_cons_self ..)
      have h5 := (h.v _ (List.getElem_mem hk)).le
      unfold ltG at this
      have := a.2
      omega
    have := giveL_app (n := n) (A := l.take (cntLt n l - 1)) (B := l[cntLt n l - 1] :: l.drop (cntLt n l)) hA
    rw [← hl, giveL_last a.2] at this
    exact this.symm
  · have e1 : (pgF l n).i = cntLt n l := by simp only [pgF]; rw [if_neg a]
    have e2 : (pgF l n).f = n := by simp only [pgF]; rw [if_neg a]
    rw [e1, e2]
    have hA : ∀ x ∈ l.take (cntLt n l), x.t < n - 1 := fun x hx => by
      have h3 := h1 x hx
      by_cases c : x.t = n - 1
      · exfalso
        obtain ⟨m, hm1, rfl⟩ := List.mem_iff_getElem.1 hx
        rw [List.length_take] at hm1
        rw [List.getElem_take] at c h3
        have hml : m < l.length := by omega
        by_cases d : m = cntLt n l - 1
        · refine a ⟨by omega, ?_⟩
          subst d
          simpa [List.getD, hml] using c
        · have hk : cntLt n l - 1 < l.length := by omega
          have h5 := List.pairwise_iff_getElem.1 h.a m (cntLt n l - 1) hml hk (by omega)
          have h6 := h1 l[cntLt n l - 1] (List.mem_iff_getElem.2 ⟨cntLt n l - 1, by rw [List.length_take]; omega, by rw [List.getElem_take]⟩)
          have h7 := (h.v _ (List.getElem_mem hk)).le
          unfold ltG at h5
          omega
      · omega
    have := giveL_app (n := n) (A := l.take (cntLt n l)) (B := l.drop (cntLt n l)) hA
    rw [List.take_append_drop, giveL_hd h2] at this
    exact this.symm
end Go.Pl
/- Bindings, peers, routes: the program's ways and the reference's. No program in sight. -/
namespace Go.Pl
open Go Go.RT
set_option linter.all false
/-! a place by a test, or the end -/
def plc {α : Type} (p : α → Bool) (l : List α) : Nat := if idxAt p 0 l < 0 then l.length else (idxAt p 0 l).toNat
theorem idxAt_ge {α : Type} (p : α → Bool) : ∀ (l : List α) (k : Nat), idxAt p k l = -1 ∨ (k : Int) ≤ idxAt p k l
  | [], k => .inl rfl
  | x :: l, k => by
    simp only [idxAt]
    cases p x with
    | true => right; simp
    | false => rcases idxAt_ge p l (k + 1) with h | h; left; simpa using h; right; simp only [cond_false]; omega
theorem idxAt_up {α : Type} (p : α → Bool) : ∀ (l : List α) (k j : Nat), idxAt p k l = if idxAt p j l < 0 then -1 else idxAt p j l + (k : Int) - j
  | [], k, j => by simp [idxAt]
  | x :: l, k, j => by
    simp only [idxAt]
    by_cases hp : p x = true
    · simp only [hp, cond_true]; rw [if_neg (by omega)]; omega
    · simp only [Bool.eq_false_iff.2 hp, cond_false]
      rw [idxAt_up p l (k + 1) (j + 1)]
      have := idxAt_ge p l (j + 1)
      split <;> omega
theorem plc_cons {α : Type} (p : α → Bool) (x : α) (l : List α) : plc p (x :: l) = if p x = true then 0 else plc p l + 1 := by
  have h1 := idxAt_up p l 1 0
  have h2 := idxAt_ge p l 0
  unfold plc
  simp only [idxAt]
  by_cases hp : p x = true
  · simp [hp]
  · simp only [Bool.eq_false_iff.2 hp, cond_false, Nat.zero_add, h1, if_neg (by decide : ¬ false = true)]
    by_cases a : idxAt p 0 l < 0
    · rw [if_pos a, if_pos a, if_pos (by decide)]; rfl
    · rw [if_neg a, if_neg a, if_neg (by omega)]; omega
theorem plc_le {α : Type} (p : α → Bool) : ∀ l : List α, plc p l ≤ l.length
  | [] => Nat.le_refl _
  | x :: l => by
    have := plc_le p l
    rw [plc_cons]
    split
    · omega
    · simp; omega
/-! bindings -/
theorem insB_plc (b : Bnd) : ∀ l : List Bnd, insL l (plc (fun x => grB x b) l) b = insB b l
  | [] => rfl
  | x :: l => by
    rw [plc_cons]
    simp only [insB]
    by_cases c : grB x b = true
    · rw [if_pos c, if_pos c]; rfl
    · rw [if_neg c, if_neg c, ← insB_plc b l]; rfl
theorem insB_len (b : Bnd) : ∀ l : List Bnd, (insB b l).length = l.length + 1
  | [] => rfl
  | x :: l => by
    simp only [insB]
    split
    · rfl
    · simp [insB_len b l]
theorem unbL_len (l : List Bnd) (p : Pfx) (n : Int) : (unbL l p n).length ≤ l.length := List.length_filter_le _ _
theorem bindL_len (l : List Bnd) (b : Bnd) : (bindL l b).length ≤ l.length + 1 := by
  have := unbL_len l b.px b.pe
  unfold bindL
  rw [insB_len]; omega
theorem any_step {α : Type} (p : α → Bool) {l : List α} {i : Nat} (h : i < l.length) : (l.drop i).any p = (p l[i] || (l.drop (i + 1)).any p) := by
  rw [List.drop_eq_getElem_cons h, List.any_cons]
theorem find_idx {α : Type} (p : α → Bool) : ∀ (l : List α), (idxAt p 0 l < 0 ∧ l.find? p = none) ∨ ∃ j : Nat, ∃ h : j < l.length, idxAt p 0 l = (j : Int) ∧ l.find? p = some l[j]
  | [] => .inl ⟨by show (-1 : Int) < 0; decide, rfl⟩
  | x :: l => by
    have h1 := idxAt_up p l 1 0
    simp only [idxAt, List.find?_cons]
    cases hp : p x with
    | true => exact .inr ⟨0, by simp, rfl, by simp⟩
    | false =>
      simp only [cond_false, Nat.zero_add, h1]
      rcases find_idx p l with ⟨a, b⟩ | ⟨j, hj, a, b⟩
      · exact .inl ⟨by rw [if_pos a]; decide, b⟩
      · refine .inr ⟨j + 1, by simp; omega, by rw [if_neg (by omega)]; omega, by simpa using b⟩
/-! peers -/
abbrev ascP' (l : List Int) : Prop := l.Pairwise fun a b => a < b
theorem insI_mem {n x : Int} : ∀ {l : List Int}, x ∈ insI n l ↔ x = n ∨ x ∈ l
  | [] => by simp [insI]
  | y :: t => by
    simp only [insI]
    split
    · simp
    · rw [List.mem_cons, insI_mem (l := t), List.mem_cons]
      constructor
      · rintro (h | h | h)
        · exact .inr (.inl h)
        · exact .inl h
        · exact .inr (.inr h)
      · rintro (h | h | h)
        · exact .inr (.inl h)
        · exact .inl h
        · exact .inr (.inr h)
theorem insI_asc {n : Int} : ∀ {l : List Int}, ascP' l → n ∉ l → ascP' (insI n l)
  | [], _, _ => by simp [insI, ascP']
  | y :: t, h, hn => by
    obtain ⟨h1, h2⟩ := List.pairwise_cons.1 h
    simp only [insI]
    split
    · next k => exact List.pairwise_cons.2 ⟨fun z hz => by rcases List.mem_cons.1 hz with rfl | hz; exact k; have := h1 z hz; omega, h⟩
    · next k =>
      refine List.pairwise_cons.2 ⟨fun z hz => ?_, insI_asc h2 fun hc => hn (List.mem_cons_of_mem _ hc)⟩
      rcases insI_mem.1 hz with rfl | hz
      · have : y ≠ z := fun e => hn (e ▸ List.mem_cons_self ..)
        omega
      · exact h1 z hz
theorem insI_len (n : Int) : ∀ l : List Int, (insI n l).length = l.length + 1
  | [] => rfl
  | y :: t => by
    simp only [insI]
    split
    · rfl
    · simp [insI_len n t]
abbrev bsQ (n : Int) (l : List Int) : Nat := bsGo (fun e => decide (e < n)) l 0 l.length
abbrev hitQ (n : Int) (l : List Int) : Bool := hitAt (fun e => decide (e = n)) l (bsQ n l)
theorem bsQ_spec {n : Int} {l : List Int} (h : ascP' l) : (∀ k (hk : k < bsQ n l) (hl : k < l.length), l[k] < n) ∧ (∀ k (hk : bsQ n l ≤ k) (hl : k < l.length), n ≤ l[k]) ∧ bsQ n l ≤ l.length := by
  have hb := bsGo_le (fun e => decide (e < n)) l (l.length - 0) 0 l.length (Nat.le_refl _) (Nat.zero_le _) (Nat.le_refl _)
  obtain ⟨k1, k2⟩ := bsGo_spec (fun e => decide (e < n)) l (fun a b ha hb h1 => by
    have := List.pairwise_iff_getElem.1 h a b (by omega) hb ha
    simp at h1 ⊢; omega) (l.length - 0) 0 l.length (Nat.le_refl _) (Nat.zero_le _) (Nat.le_refl _) (fun k hk => by omega) (fun k hk hl => by omega)
  exact ⟨fun k hk hl => by have := k1 k hk hl; simpa using this, fun k hk hl => by have := k2 k hk hl; simp at this; omega, hb.2⟩
theorem hitQ_eq {n : Int} {l : List Int} (h : ascP' l) : hitQ n l = l.contains n := by
  obtain ⟨k1, k2, k3⟩ := bsQ_spec (n := n) h
  rw [Bool.eq_iff_iff, List.contains_iff_mem]
  constructor
  · intro hh
    obtain ⟨h1, h2⟩ := hitAt_lt hh
    have e : l[bsQ n l] = n := by simpa using h2
    exact e ▸ List.getElem_mem h1
  · intro hm
    obtain ⟨j, hj, e⟩ := List.mem_iff_getElem.1 hm
    have h1 : ¬ j < bsQ n l := fun hc => by have := k1 j hc hj; omega
    have h2 : j = bsQ n l := by
      by_cases hc : bsQ n l < j
      · have := List.pairwise_iff_getElem.1 h (bsQ n l) j (by omega) hj hc
        have := k2 (bsQ n l) (Nat.le_refl _) (by omega)
        omega
      · omega
    subst h2
    unfold hitQ hitAt
    rw [List.getElem?_eq_getElem hj]
    simpa using e
theorem insI_at {n : Int} : ∀ {l : List Int} {k : Nat}, k ≤ l.length → (∀ j (hj : j < k) (hl : j < l.length), l[j] < n) → (∀ j (hj : k ≤ j) (hl : j < l.length), n < l[j]) → insL l k n = insI n l
  | [], k, hk, _, _ => by
    have : k = 0 := by simpa using hk
    subst this; rfl
  | x :: l, 0, _, _, h2 => by
    have := h2 0 (Nat.le_refl _) (by simp)
    simp only [List.getElem_cons_zero] at this
    simp [insL, insI, this]
  | x :: l, k + 1, hk, h1, h2 => by
    have := h1 0 (by omega) (by simp)
    simp only [List.getElem_cons_zero] at this
    have ih := insI_at (n := n) (l := l) (k := k) (by simpa using hk) (fun j hj hl => by have := h1 (j + 1) (by omega) (by simp; omega); simpa using this) (fun j hj hl => by have := h2 (j + 1) (by omega) (by simp; omega); simpa using this)
    simp only [insI]
    rw [if_neg (by omega), ← ih]
    simp [insL]
theorem insI_bs {n : Int} {l : List Int} (h : ascP' l) (hn : n ∉ l) : insL l (bsQ n l) n = insI n l := by
  obtain ⟨k1, k2, k3⟩ := bsQ_spec (n := n) h
  refine insI_at k3 k1 fun j hj hl => ?_
  have := k2 j hj hl
  have : l[j] ≠ n := fun e => hn (e ▸ List.getElem_mem hl)
  omega
theorem del_bs {n : Int} {l : List Int} (h : ascP' l) (hn : n ∈ l) : l.take (bsQ n l) ++ l.drop (bsQ n l + 1) = l.filter fun x => decide (x ≠ n) := by
  obtain ⟨k1, k2, k3⟩ := bsQ_spec (n := n) h
  have hc : hitQ n l = true := by rw [hitQ_eq h, List.contains_iff_mem]; exact hn
  obtain ⟨hlt, e⟩ := hitAt_lt hc
  have e : l[bsQ n l] = n := by simpa using e
  have hl : l = l.take (bsQ n l) ++ l[bsQ n l] :: l.drop (bsQ n l + 1) := by rw [← List.drop_eq_getElem_cons hlt, List.take_append_drop]
  have ha : (l.take (bsQ n l)).filter (fun x => decide (x ≠ n)) = l.take (bsQ n l) := List.filter_eq_self.2 fun x hx => by
    obtain ⟨m, hm, rfl⟩ := List.mem_iff_getElem.1 hx
    rw [List.length_take] at hm
    rw [List.getElem_take]
    have := k1 m (by omega) (by omega)
    simp; omega
  have hb : (l.drop (bsQ n l + 1)).filter (fun x => decide (x ≠ n)) = l.drop (bsQ n l + 1) := List.filter_eq_self.2 fun x hx => by
    obtain ⟨m, hm, rfl⟩ := List.mem_iff_getElem.1 hx
    rw [List.length_drop] at hm
    rw [List.getElem_drop]
    have := List.pairwise_iff_getElem.1 h (bsQ n l) (bsQ n l + 1 + m) hlt (by omega) (by omega)
    simp; omega
  conv => rhs; rw [hl]
  rw [List.filter_append, List.filter_cons, ha, hb, e]
  simp
/-! routes -/
abbrev ascX (l : List Fec) : Prop := l.Pairwise fun a b => ltPf a.px b.px
abbrev bsX (p : Pfx) (l : List Fec) : Nat := bsGo (fun x => decide (cmpP x.px p < 0)) l 0 l.length
abbrev hitX (p : Pfx) (l : List Fec) : Bool := hitAt (fun x => decide (cmpP x.px p = 0)) l (bsX p l)
/-- the search in halves finds what the search from the front finds -/
theorem bsX_find {p : Pfx} {l : List Fec} (h : ascX l) : (hitX p l = false ∧ routeF l p = none) ∨ ∃ hlt : bsX p l < l.length, hitX p l = true ∧ routeF l p = some l[bsX p l] := by
  obtain ⟨k1, k2⟩ := bsGo_spec (fun x : Fec => decide (cmpP x.px p < 0)) l (fun a b ha hb h1 => by
    have := List.pairwise_iff_getElem.1 h a b (by omega) hb ha
    have h2 : cmpP l[b].px p < 0 := by simpa using h1
    rw [cmpP_neg] at h2
    have := (cmpP_neg _ _).2 (this.trans h2)
    simpa using this) (l.length - 0) 0 l.length (Nat.le_refl _) (Nat.zero_le _) (Nat.le_refl _) (fun k hk => by omega) (fun k hk hl => by omega)
  cases hh : hitX p l with
  | true =>
    right
    obtain ⟨hlt, e⟩ := hitAt_lt hh
    refine ⟨hlt, rfl, ?_⟩
    have e : l[bsX p l].px = p := by
      have : cmpP l[bsX p l].px p = 0 := by simpa using e
      exact (cmpP_zero _ _).1 this
    have hl : l = l.take (bsX p l) ++ l[bsX p l] :: l.drop (bsX p l + 1) := by rw [← List.drop_eq_getElem_cons hlt, List.take_append_drop]
    have hn : (l.take (bsX p l)).find? (fun x => decide (x.px = p)) = none := List.find?_eq_none.2 fun x hx => by
      obtain ⟨m, hm, rfl⟩ := List.mem_iff_getElem.1 hx
      rw [List.length_take] at hm
      rw [List.getElem_take]
      have := k1 m (by show m < bsX p l; omega) (by omega)
      have : cmpP l[m].px p < 0 := by simpa using this
      simp only [decide_eq_true_eq]
      intro e2
      rw [(cmpP_zero _ _).2 e2] at this
      omega
    unfold routeF
    have h5 : (l.take (bsX p l) ++ l[bsX p l] :: l.drop (bsX p l + 1)).find? (fun x => decide (x.px = p)) = some l[bsX p l] := by
      rw [List.find?_append, hn, List.find?_cons]
      simp [e]
    rwa [← hl] at h5
  | false =>
    left
    refine ⟨rfl, List.find?_eq_none.2 fun x hx => ?_⟩
    obtain ⟨m, hm, rfl⟩ := List.mem_iff_getElem.1 hx
    simp only [decide_eq_true_eq]
    intro e
    have hz : cmpP l[m].px p = 0 := (cmpP_zero _ _).2 e
    have h1 : ¬ m < bsX p l := fun hc => by
      have := k1 m hc hm
      simp at this; omega
    have h2 : m = bsX p l := by
      by_cases hc : bsX p l < m
      · have h3 := List.pairwise_iff_getElem.1 h (bsX p l) m (by omega) hm hc
        have h4 := k2 (bsX p l) (Nat.le_refl _) (by omega)
        rw [e] at h3
        have := (cmpP_neg _ _).2 h3
        simp at h4; omega
      · omega
    subst h2
    unfold hitX hitAt at hh
    rw [List.getElem?_eq_getElem hm] at hh
    simp [hz] at hh
end Go.Pl
/- Valid states: what routes make of labels. No program in sight. -/
namespace Go.Pl
open Go Go.RT
set_option linter.all false
structure vD (ro : Int) (fr : List Rg) (lc : List Bnd) : Prop where
  hf : vG fr
  hl : lc.Pairwise fun a b => ltPf a.px b.px
  pe : ∀ b ∈ lc, b.pe = ro
  la : ∀ b ∈ lc, b.la = 3 ∨ (16 ≤ b.la ∧ b.la ≤ 1048575)
  inj : ∀ a ∈ lc, ∀ b ∈ lc, a.la = b.la → a.la ≠ 3 → a = b
  out : ∀ b ∈ lc, b.la ≠ 3 → mG fr b.la = false
/-- the labels of the beginning, each once -/
structure cD (f0 fr : List Rg) (lc : List Bnd) : Prop where
  m : ∀ n, mG f0 n = true ↔ mG fr n = true ∨ ∃ b ∈ lc, b.la ≠ 3 ∧ b.la = n
  c : cntG f0 = cntG fr + ((lc.filter fun b => decide (b.la ≠ 3)).length : Int)
def frD (fr : List Rg) (b : Bnd) : List Rg := if b.la ≠ 3 then (giveF fr b.la).1 else fr
theorem giveF_ok {fr : List Rg} {n : Int} (h : vG fr) (h1 : 16 ≤ n) (h2 : n ≤ 1048575) (h3 : mG fr n = false) : giveF fr n = (giveL fr n, 0) := by
  unfold giveF
  rw [if_neg (by simpa using (lblE_iff fr).2 h), if_neg (by simp; omega), if_neg (by unfold mG at h3; rw [h3]; decide)]
theorem pw_ne {l : List Bnd} {b : Bnd} (h : l.Pairwise fun a b => ltPf a.px b.px) {K R : List Bnd} (e : l = K ++ b :: R) : ∀ x ∈ K ++ R, x.px ≠ b.px := fun x hx hc => by
  subst e
  obtain ⟨h1, h2, h3⟩ := List.pairwise_append.1 h
  rcases List.mem_append.1 hx with hx | hx
  · have := h3 x hx b (List.mem_cons_self ..)
    rw [hc] at this; exact this.irr
  · have := (List.pairwise_cons.1 h2).1 x hx
    rw [hc] at this; exact this.irr
theorem unb_one {ro : Int} {K R : List Bnd} {b : Bnd} (h : (K ++ b :: R).Pairwise fun a b => ltPf a.px b.px) (hb : b.pe = ro) : unbL (K ++ b :: R) b.px ro = K ++ R := by
  have hn := pw_ne h rfl
  unfold unbL
  rw [List.filter_append, List.filter_cons, if_neg (by simp [isBn, hb])]
  rw [List.filter_eq_self.2 fun x hx => by simp [isBn, hn x (List.mem_append_left _ hx)], List.filter_eq_self.2 fun x hx => by simp [isBn, hn x (List.mem_append_right _ hx)]]
theorem drop1 {ro : Int} {fr : List Rg} {K R : List Bnd} {b : Bnd} (h : vD ro fr (K ++ b :: R)) : vD ro (frD fr b) (K ++ R) ∧ (b.la ≠ 3 → (giveF fr b.la).2 = 0) ∧ ∀ f0, cD f0 fr (K ++ b :: R) → cD f0 (frD fr b) (K ++ R) := by
  have hm : ∀ x ∈ K ++ R, x ∈ K ++ b :: R := fun x hx => by
    rcases List.mem_append.1 hx with hx | hx
    · exact List.mem_append_left _ hx
    · exact List.mem_append_right _ (List.mem_cons_of_mem _ hx)
  have hbm : b ∈ K ++ b :: R := List.mem_append_right _ (List.mem_cons_self ..)
  have hne := pw_ne h.hl rfl
  have hsub : (K ++ R).Sublist (K ++ b :: R) := List.Sublist.append (List.Sublist.refl K) (List.sublist_cons_self b R)
  by_cases e : b.la = 3
  · have hf : frD fr b = fr := by unfold frD; rw [if_neg (by simpa using e)]
    rw [hf]
    refine ⟨⟨h.hf, h.hl.sublist hsub, fun x hx => h.pe x (hm x hx), fun x hx => h.la x (hm x hx), fun x hx y hy => h.inj x (hm x hx) y (hm y hy), fun x hx => h.out x (hm x hx)⟩, fun k => absurd e k, fun f0 c => ⟨fun n => ?_, ?_⟩⟩
    · rw [c.m]
      refine or_congr Iff.rfl ⟨?_, fun ⟨x, hx, k⟩ => ⟨x, hm x hx, k⟩⟩
      rintro ⟨x, hx, k1, k2⟩
      rcases List.mem_append.1 hx with hx | hx
      · exact ⟨x, List.mem_append_left _ hx, k1, k2⟩
      · rcases List.mem_cons.1 hx with rfl | hx
        · exact absurd e k1
        · exact ⟨x, List.mem_append_right _ hx, k1, k2⟩
    · rw [c.c, List.filter_append, List.filter_append, List.filter_cons, if_neg (by simpa using e)]
  · have hla := (h.la b hbm).resolve_left e
    have ho := h.out b hbm e
    have hg := giveF_ok h.hf hla.1 hla.2 ho
    have hf : frD fr b = giveL fr b.la := by unfold frD; rw [if_pos e, hg]
    obtain ⟨g1, g2, g3, _⟩ := giveL_ok h.hf hla.1 hla.2 ho
    rw [hf]
    refine ⟨⟨g1, h.hl.sublist hsub, fun x hx => h.pe x (hm x hx), fun x hx => h.la x (hm x hx), fun x hx y hy => h.inj x (hm x hx) y (hm y hy), fun x hx hx3 => ?_⟩, fun _ => by rw [hg], fun f0 c => ⟨fun n => ?_, ?_⟩⟩
    · rw [g2, h.out x (hm x hx) hx3, Bool.false_or, decide_eq_false_iff_not]
      intro hc
      have := h.inj x (hm x hx) b hbm hc hx3
      exact hne x hx (this ▸ rfl)
    · rw [c.m, g2, Bool.or_eq_true, decide_eq_true_eq, or_assoc]
      refine or_congr Iff.rfl ⟨?_, ?_⟩
      · rintro ⟨x, hx, k1, k2⟩
        rcases List.mem_append.1 hx with hx | hx
        · exact .inr ⟨x, List.mem_append_left _ hx, k1, k2⟩
        · rcases List.mem_cons.1 hx with rfl | hx
          · exact .inl k2.symm
          · exact .inr ⟨x, List.mem_append_right _ hx, k1, k2⟩
      · rintro (k | ⟨x, hx, k⟩)
        · exact ⟨b, hbm, e, k.symm⟩
        · exact ⟨x, hm x hx, k⟩
    · rw [c.c, g3, List.filter_append, List.filter_append, List.filter_cons, if_pos (by simpa using e)]
      simp only [List.length_append, List.length_cons]
      omega
/-- what the program makes: taken out one by one -/
def pdS (ro : Int) (ps : List Int) (l : List Fec) (s : DSt) (b : Bnd) : DSt :=
  if okB l b = true then s else (if b.la ≠ 3 then (if (giveF s.1 b.la).2 = 0 then (giveF s.1 b.la).1 else s.1) else s.1, unbL s.2.1 b.px ro, s.2.2 ++ ps.map fun n => msgS n 2 b.px b.la)
theorem pd_eq {ro : Int} {ps : List Int} {l : List Fec} : ∀ (R K : List Bnd) (fr : List Rg) (o : List Snd), vD ro fr (K ++ R) → R.foldl (pdS ro ps l) (fr, K ++ R, o) = R.foldl (dropS ps l) (fr, K, o)
  | [], K, fr, o, _ => by simp
  | b :: R, K, fr, o, h => by
    rw [List.foldl_cons, List.foldl_cons]
    by_cases c : okB l b = true
    · have e1 : pdS ro ps l (fr, K ++ b :: R, o) b = (fr, (K ++ [b]) ++ R, o) := by simp [pdS, c]
      have e2 : dropS ps l (fr, K, o) b = (fr, K ++ [b], o) := by simp [dropS, c]
      rw [e1, e2]
      exact pd_eq R (K ++ [b]) fr o (by simpa using h)
    · obtain ⟨k1, k2, _⟩ := drop1 h
      have hb := h.pe b (List.mem_append_right _ (List.mem_cons_self ..))
      have e2 : dropS ps l (fr, K, o) b = (frD fr b, K, o ++ ps.map fun n => msgS n 2 b.px b.la) := by
        simp only [dropS]
        rw [if_neg c]; rfl
      have e1 : pdS ro ps l (fr, K ++ b :: R, o) b = (frD fr b, K ++ R, o ++ ps.map fun n => msgS n 2 b.px b.la) := by
        simp only [pdS]
        rw [if_neg c, unb_one h.hl hb]
        unfold frD
        by_cases e : b.la = 3
        · rw [if_neg (by simpa using e), if_neg (by simpa using e)]
        · rw [if_pos e, if_pos e, if_pos (k2 e)]
      rw [e1, e2]
      exact pd_eq R K _ _ k1
/-- what is kept is valid -/
theorem drop_ok {ro : Int} {ps : List Int} {l : List Fec} {f0 : List Rg} : ∀ (R K : List Bnd) (fr : List Rg) (o : List Snd), vD ro fr (K ++ R) → (vD ro (R.foldl (dropS ps l) (fr, K, o)).1 (R.foldl (dropS ps l) (fr, K, o)).2.1 ∧ (cD f0 fr (K ++ R) → cD f0 (R.foldl (dropS ps l) (fr, K, o)).1 (R.foldl (dropS ps l) (fr, K, o)).2.1)) ∧ (R.foldl (dropS ps l) (fr, K, o)).2.1 = K ++ R.filter (okB l)
  | [], K, fr, o, h => by
    rw [List.append_nil] at h
    simpa using h
  | b :: R, K, fr, o, h => by
    rw [List.foldl_cons]
    by_cases c : okB l b = true
    · rw [show dropS ps l (fr, K, o) b = (fr, K ++ [b], o) by simp [dropS, c]]
      obtain ⟨⟨k1, k2⟩, k3⟩ := drop_ok (f0 := f0) R (K ++ [b]) fr o (by simpa using h)
      refine ⟨⟨k1, fun hc => k2 (by simpa using hc)⟩, ?_⟩
      rw [k3, List.filter_cons, if_pos c]; simp
    · obtain ⟨j1, _, j3⟩ := drop1 h
      rw [show dropS ps l (fr, K, o) b = (frD fr b, K, o ++ ps.map fun n => msgS n 2 b.px b.la) by simp only [dropS]; rw [if_neg c]; rfl]
      obtain ⟨⟨k1, k2⟩, k3⟩ := drop_ok (f0 := f0) R K (frD fr b) (o ++ ps.map fun n => msgS n 2 b.px b.la) j1
      refine ⟨⟨k1, fun hc => k2 (j3 f0 hc)⟩, ?_⟩
      rw [k3, List.filter_cons, if_neg c]
/-! a label given out -/
theorem insB_mem {b x : Bnd} : ∀ {l : List Bnd}, x ∈ insB b l ↔ x = b ∨ x ∈ l
  | [] => by simp [insB]
  | y :: t => by
    simp only [insB]
    split
    · simp
    · rw [List.mem_cons, insB_mem (l := t), List.mem_cons]
      constructor
      · rintro (h | h | h)
        · exact .inr (.inl h)
        · exact .inl h
        · exact .inr (.inr h)
      · rintro (h | h | h)
        · exact .inr (.inl h)
        · exact .inl h
        · exact .inr (.inr h)
theorem insB_filt (p : Bnd → Bool) (b : Bnd) : ∀ l : List Bnd, ((insB b l).filter p).length = (l.filter p).length + if p b = true then 1 else 0
  | [] => by
    simp only [insB, List.filter_cons]
    split <;> simp
  | y :: t => by
    have ih := insB_filt p b t
    simp only [insB]
    split
    · rw [List.filter_cons]
      split <;> simp
    · rw [List.filter_cons, List.filter_cons]
      split
      · simp only [List.length_cons, ih]; omega
      · exact ih
theorem insB_asc {b : Bnd} : ∀ {l : List Bnd}, l.Pairwise (fun a b => ltPf a.px b.px) → (∀ x ∈ l, x.px ≠ b.px) → (insB b l).Pairwise fun a b => ltPf a.px b.px
  | [], _, _ => by simp [insB]
  | y :: t, h, hn => by
    obtain ⟨h1, h2⟩ := List.pairwise_cons.1 h
    have hy := hn y (List.mem_cons_self ..)
    have hz : cmpP y.px b.px ≠ 0 := fun e => hy ((cmpP_zero _ _).1 e)
    simp only [insB]
    split
    · next k =>
      have hlt : ltPf b.px y.px := by
        rcases pf_tri y.px b.px with a | a | a
        · have := (cmpP_neg _ _).2 a
          simp [grB] at k; omega
        · exact absurd a hy
        · exact a
      refine List.pairwise_cons.2 ⟨fun z hz => ?_, h⟩
      rcases List.mem_cons.1 hz with rfl | hz
      · exact hlt
      · exact hlt.trans (h1 z hz)
    · next k =>
      have hlt : ltPf y.px b.px := by
        rcases pf_tri y.px b.px with a | a | a
        · exact a
        · exact absurd a hy
        · have h5 : ¬ cmpP y.px b.px < 0 := fun hc => ((cmpP_neg _ _).1 hc |>.trans a).irr
          simp [grB] at k; omega
      refine List.pairwise_cons.2 ⟨fun z hz => ?_, insB_asc h2 fun x hx => hn x (List.mem_cons_of_mem _ hx)⟩
      rcases insB_mem.1 hz with rfl | hz
      · exact hlt
      · exact h1 z hz
theorem findB_none {ro : Int} {lc : List Bnd} {p : Pfx} (hp : ∀ b ∈ lc, b.pe = ro) : (findB lc p ro).isSome = false ↔ ∀ x ∈ lc, x.px ≠ p := by
  unfold findB
  rw [Option.isSome_map, Option.isSome_eq_false_iff, Option.isNone_iff_eq_none, List.find?_eq_none]
  constructor
  · intro h x hx e
    have := h x hx
    simp [isBn, e, hp x hx] at this
  · intro h x hx
    simp [isBn, h x hx]
theorem unb_id {lc : List Bnd} {p : Pfx} {n : Int} (h : ∀ x ∈ lc, x.px ≠ p) : unbL lc p n = lc := List.filter_eq_self.2 fun x hx => by simp [isBn, h x hx]
/-- the state after a binding with a label that is neither free nor given out -/
theorem bind1 {ro : Int} {fr fr' : List Rg} {lc : List Bnd} {p : Pfx} {n : Int} (h : vD ro fr lc) (hp : ∀ x ∈ lc, x.px ≠ p) (hf : vG fr') (hn : n = 3 ∨ (16 ≤ n ∧ n ≤ 1048575)) (h1 : ∀ b ∈ lc, b.la ≠ 3 → mG fr' b.la = false) (h2 : n ≠ 3 → mG fr' n = false ∧ ∀ b ∈ lc, b.la ≠ n) : vD ro fr' (bindL lc ⟨p, ro, n⟩) := by
  unfold bindL
  rw [unb_id hp]
  refine ⟨hf, insB_asc h.hl hp, fun b hb => ?_, fun b hb => ?_, fun a ha b hb e1 e2 => ?_, fun b hb e => ?_⟩
  · rcases insB_mem.1 hb with rfl | hb
    · rfl
    · exact h.pe b hb
  · rcases insB_mem.1 hb with rfl | hb
    · exact hn
    · exact h.la b hb
  · rcases insB_mem.1 ha with rfl | ha
    · rcases insB_mem.1 hb with rfl | hb
      · rfl
      · exact absurd e1.symm ((h2 e2).2 b hb)
    · rcases insB_mem.1 hb with rfl | hb
      · have e1' : a.la = n := e1
        exact absurd e1' ((h2 (e1' ▸ e2)).2 a ha)
      · exact h.inj a ha b hb e1 e2
  · rcases insB_mem.1 hb with rfl | hb
    · exact (h2 e).1
    · exact h1 b hb e
theorem bindS_ok {ro : Int} {ps : List Int} {s : DSt} {x : Fec} (h : vD ro s.1 s.2.1) : vD ro (bindS ro ps s x).1 (bindS ro ps s x).2.1 ∧ ∀ f0, cD f0 s.1 s.2.1 → cD f0 (bindS ro ps s x).1 (bindS ro ps s x).2.1 := by
  obtain ⟨fr, lc, o⟩ := s
  dsimp only at h
  simp only [bindS]
  by_cases c : (findB lc x.px ro).isSome = true
  · rw [if_pos c]; exact ⟨h, fun f0 k => k⟩
  rw [if_neg c]
  have hp := (findB_none h.pe).1 (Bool.eq_false_iff.2 c)
  by_cases d : x.lo = true
  · rw [if_pos d]
    refine ⟨bind1 h hp h.hf (.inl rfl) h.out fun k => absurd rfl k, fun f0 k => ⟨fun n => ?_, ?_⟩⟩
    · rw [k.m]
      dsimp only
      unfold bindL
      rw [unb_id hp]
      refine or_congr Iff.rfl ⟨fun ⟨b, hb, q⟩ => ⟨b, insB_mem.2 (.inr hb), q⟩, ?_⟩
      rintro ⟨b, hb, q1, q2⟩
      rcases insB_mem.1 hb with rfl | hb
      · exact absurd rfl q1
      · exact ⟨b, hb, q1, q2⟩
    · rw [k.c]
      dsimp only
      unfold bindL
      rw [unb_id hp, insB_filt]; simp
  rw [if_neg d]
  have hv : lblE fr = 0 := (lblE_iff fr).2 h.hf
  cases fr with
  | nil =>
    have : (takeF []).2.2 = 8 := by simp [takeF, hv]
    rw [if_pos (by rw [this]; decide)]
    exact ⟨h, fun f0 k => k⟩
  | cons r t =>
    have ht : takeF (r :: t) = (r.f, takeL (r :: t), 0) := by simp [takeF, hv]
    rw [ht]
    rw [if_neg (by simp)]
    obtain ⟨g1, g2, g3, g4⟩ := takeL_ok h.hf rfl
    have hr := mG_rng h.hf g4
    have hno : ∀ b ∈ lc, b.la ≠ r.f := fun b hb e => by
      have := h.out b hb (by omega)
      rw [e, g4] at this; cases this
    refine ⟨bind1 h hp g1 (.inr hr) (fun b hb e => by rw [g2, h.out b hb e]; rfl) fun _ => ⟨by rw [g2]; simp, hno⟩, fun f0 k => ⟨fun n => ?_, ?_⟩⟩
    · rw [k.m]
      dsimp only
      unfold bindL
      rw [unb_id hp, g2, Bool.and_eq_true]
      constructor
      · rintro (q | ⟨b, hb, q1, q2⟩)
        · by_cases e : n = r.f
          · exact .inr ⟨_, insB_mem.2 (.inl rfl), by show r.f ≠ 3; omega, e.symm⟩
          · exact .inl ⟨q, by simpa using e⟩
        · exact .inr ⟨b, insB_mem.2 (.inr hb), q1, q2⟩
      · rintro (q | ⟨b, hb, q1, q2⟩)
        · exact .inl q.1
        · rcases insB_mem.1 hb with rfl | hb
          · exact .inl (q2 ▸ g4)
          · exact .inr ⟨b, hb, q1, q2⟩
    · rw [k.c]
      dsimp only
      unfold bindL
      rw [unb_id hp, insB_filt, if_pos (by simp; omega), g3]; omega
theorem bindF_ok {ro : Int} {ps : List Int} : ∀ (l : List Fec) {s : DSt}, vD ro s.1 s.2.1 → vD ro (l.foldl (bindS ro ps) s).1 (l.foldl (bindS ro ps) s).2.1 ∧ ∀ f0, cD f0 s.1 s.2.1 → cD f0 (l.foldl (bindS ro ps) s).1 (l.foldl (bindS ro ps) s).2.1
  | [], s, h => ⟨h, fun f0 k => k⟩
  | x :: l, s, h => by
    rw [List.foldl_cons]
    obtain ⟨k1, k2⟩ := bindS_ok (ps := ps) (x := x) h
    obtain ⟨k3, k4⟩ := bindF_ok (ps := ps) l k1
    exact ⟨k3, fun f0 k => k4 f0 (k2 f0 k)⟩
end Go.Pl
namespace Go.Proofs.YtkofbemgpeagbaaGreat
open Go Go.RT Go.Proofs Go.Pl
set_option linter.all false
set_option maxRecDepth 20000
set_option maxHeartbeats 4000000
theorem clamp_any (n most : Int) : Pure Tryz.prog 160 [If .i64 n, If .i64 most] (If .i64 (min (max n 0) most)) := by
 refine Meets.intro Tryz.func160 rfl (Nat.le_of_ble_eq_true rfl) fun C hC => ?_
 simp only [List.map, argEnv, Nat.reduceAdd]
 refine nK ?_
 refine za ?_
 refine ze ?_
 refine zb ?_
 refine nK ?_
 refine za ?_
 refine zc ?_
 refine zcn ?_
 refine zc ?_
 refine rpZ 8 rfl (op_min rfl (oT rfl) (oT rfl)) ?_
 refine zd ?_
 refine zb ?_
 refine nK ?_
 exact wO hC

theorem mask_val (n : Int) : IV .u32 (IntKind.u32.wrap (4294967295 * 2 ^ (32 - clampN n))) = IV .u32 ((2 ^ 32 - 2 ^ (32 - clampN n) : Nat) : Int) := by
 have h1 : 2 ^ (32 - clampN n) ≤ 2 ^ 32 := Nat.pow_le_pow_right (by omega) (by omega)
 have := mask_wrap (32 - clampN n) (by omega)
 have e : (4294967295 * 2 ^ (32 - clampN n) : Int) = ((4294967295 * 2 ^ (32 - clampN n) : Nat) : Int) := by simp
 have h3 : IntKind.u32.wrap (4294967295 * 2 ^ (32 - clampN n)) = ((2 ^ 32 - 2 ^ (32 - clampN n) : Nat) : Int) := by
  rw [e]; simp only [IntKind.wrap, IntKind.bits, IntKind.signed]
  have : (4294967295 * 2 ^ (32 - clampN n)) % 2 ^ 32 = 2 ^ 32 - 2 ^ (32 - clampN n) := this
  simp; omega
 rw [h3]
theorem mask_any (n : Int) : Pure Tryz.prog 153 [If .i64 n] (If .u32 ((2 ^ 32 - 2 ^ (32 - clampN n) : Nat) : Int)) := by
 have hc := clampN_int n
 have hl := clampN_le n
 refine Meets.intro Tryz.func153 rfl (Nat.le_of_ble_eq_true rfl) fun C hC => ?_
 simp only [List.map, argEnv, Nat.reduceAdd]
 refine nK ?_
 refine za ?_
 refine ze ?_
 refine zb ?_
 refine nK ?_
 refine za ?_
 refine zc ?_
 refine rpZ 4 rfl (op_call_pure (fun _ => clamp_any _ _) rfl (Opd.func _) (oS (oT rfl) (oS oC Opds.nil))) ?_
 refine rpZ 5 rfl (op_sub rfl oC (oT rfl) tI) ?_
 refine rpZ 6 rfl (castP (fun _ => mask_val n) (op_shlw (n := 32 - clampN n) rfl oC (oT rfl) (by intro _; simp only [IntKind.bits]; omega))) ?_
 refine zd ?_
 refine zb ?_
 refine nK ?_
 exact wO hC

theorem keep_any (x : Nat) (n : Int) (hx : x < 2 ^ 32) : Pure Tryz.prog 135 [If .u32 x, If .i64 n] (If .u32 (keepN x (clampN n))) := by
 have hc := clampN_int n
 have hl := clampN_le n
 have hk : ((x &&& (2 ^ 32 - 2 ^ (32 - clampN n)) : Nat) : Int) = (keepN x (clampN n) : Int) := by rw [land_high x _ (by omega) hx]; rfl
 have hle := keepN_le x (clampN n)
 have h0 : 0 < 2 ^ (32 - clampN n) := Nat.two_pow_pos _
 refine Meets.intro Tryz.func135 rfl (Nat.le_of_ble_eq_true rfl) fun C hC => ?_
 simp only [List.map, argEnv, Nat.reduceAdd]
 refine nK ?_
 refine za ?_
 refine ze ?_
 refine zb ?_
 refine nK ?_
 refine za ?_
 refine zc ?_
 refine zc ?_
 refine rpZ 7 rfl (op_call_pure (fun _ => mask_any _) rfl (Opd.func _) (oS (oT rfl) Opds.nil)) ?_
 refine rpZ 8 rfl (castP (fun _ => congrArg (IV .u32) hk) (op_bits rfl (oT rfl) (oT rfl) (.inl ⟨rfl, rfl⟩) (by intro _; simp only [IntKind.bits]; omega) (by intro _; simp only [inr, hk]; omega))) ?_
 refine zd ?_
 refine zb ?_
 refine nK ?_
 exact wO hC


theorem valid_any (p : Pfx) (h : p.ok) : Pure Tryz.prog 97 [.agg (encP p)] (Bf (validB p)) := by
 obtain ⟨h1, h2⟩ := h
 refine Meets.intro Tryz.func97 rfl (Nat.le_of_ble_eq_true rfl) fun C hC => ?_
 simp only [List.map, argEnv, Nat.reduceAdd]
 refine nK ?_
 refine za ?_
 refine zu ?_
 refine ze ?_
 refine zb ?_
 refine nK ?_
 refine s_draw mixed ?_
 refine zf ?_
 refine zh ?_
 refine zcg ?_
 refine zc ?_
 refine zp ?_
 refine zs ?_
 refine rgZ 9 rfl rfl tG (op_leq rfl (oO rfl tO) oC) ?_
 refine zy ?_
 refine zc ?_
 refine zp ?_
 refine zs ?_
 refine zp ?_
 refine zs ?_
 refine rgZ 16 rfl rfl tG (op_call_pure (fun _ => keep_any _ _ (by omega)) rfl (Opd.func _) (oS (oO rfl tO) (oS (oO rfl tO) Opds.nil))) ?_
 refine zp ?_
 refine zs ?_
 refine zbp ?_
 refine zy ?_
 refine zd ?_
 refine zq ?_
 refine nK ?_
 exact wO hC
theorem pcmp_c (p q : Pfx) : Pure Tryz.prog 86 [.agg (encP p), .agg (encP q)] (If .i64 (cmpP p q)) := by
 unfold cmpP
 refine Meets.intro Tryz.func86 rfl (Nat.le_of_ble_eq_true rfl) fun C hC => ?_
 simp only [List.map, argEnv, Nat.reduceAdd]
 refine nK ?_
 refine za ?_
 refine zu ?_
 refine zu ?_
 refine ze ?_
 refine zb ?_
 refine nK ?_
 refine za ?_
 refine zf ?_
 refine zh ?_
 refine zf ?_
 refine zh ?_
 refine zn ?_
 refine zc ?_
 refine zp ?_
 refine zs ?_
 refine zp ?_
 refine zs ?_
 refine zbp ?_
 refine zce ?_
 refine zp ?_
 refine zs ?_
 refine zp ?_
 refine zs ?_
 refine zcv ?_
 refine zco ?_
 refine zbd ?_
 refine zd ?_
 refine zb ?_
 refine nK ?_
 refine n_cond _ rfl (fun hb => ?_) (fun hb => ?_)
 ·rw [if_pos (by simp at hb ⊢; omega)]
  refine nK ?_
  refine za ?_
  refine ze ?_
  refine zb ?_
  refine nK ?_
  exact wO hC
 rw [if_neg (by simp at hb ⊢; omega)]
 refine nK ?_
 refine za ?_
 refine zm ?_
 refine zm ?_
 refine zcp ?_
 refine zd ?_
 refine zb ?_
 refine nK ?_
 refine n_cond _ rfl (fun hb => ?_) (fun hb => ?_)
 ·have e : p = q := by
   have h : eqFs (encP p) (encP q) = true := hb
   rw [eqFs_encP] at h; simpa using h
  rw [if_pos e]
  refine nK ?_
  refine za ?_
  refine ze ?_
  refine zb ?_
  refine nK ?_
  exact wO hC
 have e : ¬ p = q := by
  have h : eqFs (encP p) (encP q) = false := hb
  rw [eqFs_encP] at h; simpa using h
 rw [if_neg e]
 refine nK ?_
 refine za ?_
 refine ze ?_
 refine zb ?_
 refine nK ?_
 exact wO hC
end Go.Proofs.YtkofbemgpeagbaaGreat
/- Bytes of numbers. No program in sight. -/
namespace Go.Pl
open Go Go.RT
set_option linter.all false
/-- the lowest n bytes of x, the most significant first -/
def numB (n x : Nat) : List Int := (List.range n).map fun k => ((x / 2 ^ (8 * (n - 1 - k)) % 256 : Nat) : Int)
theorem numB_len (n x : Nat) : (numB n x).length = n := by simp [numB]
theorem numB_take (n x k : Nat) (h : k < n) : (numB n x).take (k + 1) = (numB n x).take k ++ [((x / 2 ^ (8 * (n - 1 - k)) % 256 : Nat) : Int)] := by
  rw [List.take_succ_eq_append_getElem (by rw [numB_len]; exact h)]
  congr 1
  simp [numB]
theorem numB4 (x : Nat) : numB 4 x = be4 x := by
  simp [numB, be4, List.range, List.range.loop]
theorem u8wrap (a : Nat) : IntKind.u8.wrap (a : Int) = ((a % 256 : Nat) : Int) := by
  simp only [IntKind.wrap, IntKind.bits, IntKind.signed]
  simp
abbrev fN (l : List Int) : Int := l.foldl (fun x c => x * 256 + c) 0
theorem fN_take {l : List Int} {i : Nat} (h : i < l.length) : fN (l.take (i + 1)) = fN (l.take i) * 256 + l[i] := by
  rw [List.take_succ_eq_append_getElem h]; unfold fN; rw [List.foldl_append]; rfl
theorem fN_bd : ∀ {l : List Int}, (∀ x ∈ l, 0 ≤ x ∧ x < 256) → ∃ m : Nat, fN l = m ∧ m < 256 ^ l.length := by
  intro l
  rw [← List.reverse_reverse l]
  induction l.reverse with
  | nil => intro _; exact ⟨0, rfl, by simp⟩
  | cons a t ih =>
    intro h
    obtain ⟨m, e, hm⟩ := ih fun x hx => h x (by simp at hx ⊢; exact .inl hx)
    obtain ⟨h1, h2⟩ := h a (by simp)
    refine ⟨m * 256 + a.toNat, ?_, ?_⟩
    · simp only [fN, List.reverse_cons, List.foldl_append, List.foldl_cons, List.foldl_nil] at e ⊢
      rw [e]; omega
    · simp only [List.reverse_cons, List.length_append, List.length_cons, List.length_nil, Nat.zero_add, Nat.pow_succ] at hm ⊢
      omega
theorem shl_or (m c : Nat) (hc : c < 256) : (m * 2 ^ 8) ||| c = m * 256 + c := by
  have := Nat.two_pow_add_eq_or_of_lt (i := 8) (b := c) (by omega) m
  rw [Nat.mul_comm]
  omega
theorem flat_take {ps : List (List Int)} {i : Nat} (h : i < ps.length) : (ps.take (i + 1)).flatten = (ps.take i).flatten ++ ps[i] := by
  rw [List.take_succ_eq_append_getElem h, List.flatten_append, List.flatten_singleton]
theorem flat_le (ps : List (List Int)) (i : Nat) : (ps.take i).flatten.length ≤ ps.flatten.length := by
  have : ps.flatten = (ps.take i).flatten ++ (ps.drop i).flatten := by rw [← List.flatten_append, List.take_append_drop]
  rw [this, List.length_append]; omega
abbrev VPs (ps : List (List Int)) : FV := .vals 1 (ps.map fun p => [VY p])
abbrev OY (l : List Int) : Option Ob := some (.flat 1 (l.map encY))
end Go.Pl
namespace Go.Proofs.YtkofbemgpeagbaaGreat
open Go Go.RT Go.Proofs Go.Pl
set_option linter.all false
set_option maxRecDepth 20000
set_option maxHeartbeats 4000000
theorem wHE2a {α : Prop} (h : α := by repeat (first | exact trivial | refine ⟨⟨_, rfl, .inl ⟨rfl, rfl⟩⟩, ?_⟩)) : α := h
theorem wHE2b {α : Prop} (h : α := by repeat (first | exact trivial | refine ⟨wS, ?_⟩ | refine ⟨ent_same rfl rfl (rfEq rfl tU) tL, ?_⟩ | refine ⟨ent_same rfl rfl (flEq rfl (by first | (simp; done) | (simp; omega) | (simp [encP, encW, encY]; done) | simp [maxC, minC])) trivial, ?_⟩)) : α := h
theorem join_c (ps : List (List Int)) (hn : ps.length ≤ 1000) (hm : ps.flatten.length ≤ 1000000) : Pure Tryz.prog 98 [VPs ps] (VY ps.flatten) := by
 refine Meets.intro Tryz.func98 rfl (Nat.le_of_ble_eq_true rfl) fun C hC => ?_
 simp only [List.map, argEnv, Nat.reduceAdd]
 refine nK ?_
 refine za ?_
 refine ze ?_
 refine zb ?_
 refine nK ?_
 refine za ?_
 refine ze ?_
 refine zb ?_
 refine nK ?_
 refine za ?_
 refine zc ?_
 refine zk ?_
 refine zx ?_
 refine zb ?_
 refine nK ?_
 refine n_loop (ι := Nat) (fun i => ([(0, .fz (VPs ps)), (3, IV .i64 ((ps.take i).flatten.length : Nat)), (9, .fz (VPs ps)), (10, IV .i64 ps.length), (11, IV .i64 i)], [], 0)) (fun i => i ≤ ps.length) (fun i => ps.length - i) 0 (Nat.zero_le _) ?_ ?_
 ·refine Next.weak [] [] (by rfl) (keeps0 hC _) wHE2a wHE2b wN rel_intro
 intro i hi K hK
 have hb1 := flat_le ps i
 refine nK ?_
 refine za ?_
 refine zn ?_
 refine zb ?_
 refine nK ?_
 refine n_cond _ rfl (fun hb => ?_) (fun hb => ?_)
 ·have hlt : i < ps.length := by simp at hb; omega
  have hr1 := row_at' (fun p => [VY p]) ps i hlt
  have hb2 := flat_le ps (i + 1)
  have hK1 := hK (i + 1) (by omega) (by omega)
  rw [flat_take hlt, List.length_append] at hK1 hb2
  generalize ps[i] = p at *
  refine nK ?_
  refine za ?_
  refine zr ?_
  refine zt ?_
  refine zd ?_
  refine zb ?_
  refine nK ?_
  refine za ?_
  refine zc ?_
  refine zc ?_
  refine zk ?_
  refine zbm ?_
  refine zd ?_
  refine zb ?_
  refine nK ?_
  refine za ?_
  refine zj ?_
  refine zc ?_
  refine zb ?_
  refine nK ?_
  refine Next.weak [] [] (by rfl) (keeps0 hC _) wHE2a wHE2b wN hK1
 have hie : i = ps.length := by simp at hb; omega
 rw [hie, List.take_length]
 clear hK hb1
 refine nK ?_
 refine za ?_
 refine zc ?_
 refine Run.eff (dd := some 21) rfl rfl (op_make (l := 0) (c := ps.flatten.length) rfl oC (oT rfl) rfl rfl rfl rfl (by intro _; refine ⟨rfl, rfl, by omega, by omega, by omega⟩)) ?_
 refine zd ?_
 refine zb ?_
 refine nK ?_
 refine za ?_
 refine zc ?_
 refine zk ?_
 refine zx ?_
 refine zb ?_
 refine nK ?_
 refine n_loop (ι := Nat) (fun i => ([(6, .sl 0 1 0 (ps.take i).flatten.length), (22, .fz (VPs ps)), (23, IV .i64 ps.length), (24, IV .i64 i)], [(0, OY (ps.take i).flatten)], 1)) (fun i => i ≤ ps.length) (fun i => ps.length - i) 0 (Nat.zero_le _) ?_ ?_
 ·refine Next.weakS [6] [] (by rfl) (wK hC) wG wHE2b rfl (rel_intro)
 intro i hi K hK
 have hb1 := flat_le ps i
 refine nK ?_
 refine za ?_
 refine zn ?_
 refine zb ?_
 refine nK ?_
 refine n_cond _ rfl (fun hb => ?_) (fun hb => ?_)
 ·have hlt : i < ps.length := by simp at hb; omega
  have hr1 := row_at' (fun p => [VY p]) ps i hlt
  have hb2 := flat_le ps (i + 1)
  have hK1 := hK (i + 1) (by omega) (by omega)
  rw [flat_take hlt] at hK1 hb2
  rw [List.length_append] at hb2
  unfold OY at hK1
  rw [List.length_append, List.map_append] at hK1
  generalize ps[i] = p at *
  generalize (ps.take i).flatten = o at *
  refine nK ?_
  refine za ?_
  refine zr ?_
  refine zt ?_
  refine zd ?_
  refine zb ?_
  refine nK ?_
  refine za ?_
  refine zc ?_
  refine zc ?_
  refine Run.eff (dd := some 30) rfl rfl (op_append rfl (oT rfl) (oT rfl) rfl (by first | (simp; done) | (simp; omega)) rfl rfl tB tB) ?_
  refine zd ?_
  refine zb ?_
  refine nK ?_
  refine za ?_
  refine zj ?_
  refine zc ?_
  refine zb ?_
  refine nK ?_
  refine Next.weakS [6] [] (by rfl) (wK hC) wG wHE2b rfl (hK1)
 have hie : i = ps.length := by simp at hb; omega
 rw [hie, List.take_length]
 generalize ps.flatten = o at *
 refine nK ?_
 refine za ?_
 refine zc ?_
 refine zd ?_
 refine zb ?_
 refine nK ?_
 refine Next.weakS [] [2] (by rfl) (keeps0 hC _) (G' := [(2, .fz (VY o))]) (H' := []) wF trivial rfl ?_
 exact wO hC
theorem number_c (n x : Nat) (hn : n ≤ 8) (hx : x < 2 ^ 63) : Pure Tryz.prog 99 [If .i64 n, If .u64 x] (VY (numB n x)) := by
 have hl := numB_len n x
 refine Meets.intro Tryz.func99 rfl (Nat.le_of_ble_eq_true rfl) fun C hC => ?_
 simp only [List.map, argEnv, Nat.reduceAdd]
 refine nK ?_
 refine za ?_
 refine ze ?_
 refine zb ?_
 refine nK ?_
 refine za ?_
 refine ze ?_
 refine zb ?_
 refine nK ?_
 refine Next.adopt 5 1 rfl ?_
 refine nK ?_
 refine za ?_
 refine zc ?_
 refine zbv ?_
 refine zd ?_
 refine zb ?_
 refine nK ?_
 refine n_loop (ι := Nat) (fun k => ([(1, IV .u64 x), (5, .sl 0 1 0 k), (6, IV .i64 (n - 1 - k))], [(0, OY ((numB n x).take k))], 1)) (fun k => k ≤ n) (fun k => n - k) 0 (Nat.zero_le _) ?_ ?_
 ·refine Next.weakS [5] [] (by rfl) (wK hC) wG wHE2b rfl (rel_intro)
 intro k hk K hK
 refine nK ?_
 refine za ?_
 refine zc ?_
 refine zcg ?_
 refine zb ?_
 refine nK ?_
 refine n_cond _ rfl (fun hb => ?_) (fun hb => ?_)
 ·have hlt : k < n := by simp at hb; omega
  have hK1 := hK (k + 1) (by omega) (by omega)
  unfold OY at hK1
  rw [numB_take n x k hlt, List.map_append] at hK1
  have hle : x / 2 ^ (8 * (n - 1 - k)) ≤ x := Nat.div_le_self _ _
  refine nK ?_
  refine za ?_
  refine zc ?_
  refine zc ?_
  refine zc ?_
  refine zdh ?_
  refine rpZ 17 rfl (op_shrN (8 * (n - 1 - k)) rfl (oT rfl) (oT rfl) (by intro _; simp only [IntKind.bits]; omega)) ?_
  refine rpZ 18 rfl (castP (fun _ => congrArg (IV .u8) (u8wrap _)) (op_convw rfl (oT rfl))) ?_
  refine zqqz ?_
  refine Run.eff (dd := some 20) rfl rfl (op_append rfl (oT rfl) (oT rfl) rfl (by first | (simp; done) | (simp; omega)) rfl rfl tB tB) ?_
  refine zd ?_
  refine zb ?_
  refine nK ?_
  refine za ?_
  refine zc ?_
  refine zbv ?_
  refine zd ?_
  refine zb ?_
  refine nK ?_
  refine Next.weakS [5] [] (by rfl) (wK hC) wG wHE2b rfl (hK1)
 have hie : k = n := by simp at hb; omega
 rw [hie, List.take_of_length_le (by omega)]
 clear hK
 generalize numB n x = nb at *
 subst hl
 refine nK ?_
 refine za ?_
 refine zc ?_
 refine zd ?_
 refine zb ?_
 refine nK ?_
 refine Next.weakS [] [4] (by rfl) (keeps0 hC _) (G' := [(4, .fz (VY nb))]) (H' := []) wF trivial rfl ?_
 exact wO hC
theorem put_c (b : List Int) (n x : Nat) (hb : b.length ≤ 1000) (hn : n ≤ 8) (hx : x < 2 ^ 63) : Pure Tryz.prog 59 [VY b, If .i64 n, If .u64 x] (VY (b ++ numB n x)) := by
 have hl := numB_len n x
 have k1 := number_c n x hn hx
 have e : min (max (n : Int) 0) 8 = (n : Int) := by omega
 have k2 := join_c [b, numB n x] (by simp) (by simp [hl]; omega)
 simp only [List.flatten_cons, List.flatten_nil, List.append_nil] at k2
 rw [← e] at k1
 refine Meets.intro Tryz.func59 rfl (Nat.le_of_ble_eq_true rfl) fun C hC => ?_
 simp only [List.map, argEnv, Nat.reduceAdd]
 refine nK ?_
 refine za ?_
 refine ze ?_
 refine zb ?_
 refine nK ?_
 refine za ?_
 refine zc ?_
 refine zc ?_
 refine zcn ?_
 refine rpZ 10 rfl (op_min rfl (oT rfl) oC) ?_
 refine zc ?_
 refine rpZ 12 rfl (op_call_pure (fun _ => k1) rfl (Opd.func _) (oS (oT rfl) (oS (oT rfl) Opds.nil))) ?_
 refine zcw ?_
 refine rpZ 14 rfl (op_call_pure (fun _ => k2) rfl (Opd.func _) (oS (oT rfl) Opds.nil)) ?_
 refine zd ?_
 refine zb ?_
 refine nK ?_
 exact wO hC
theorem get_c (b : List Int) (i : Nat) (hbb : ∀ x ∈ b, 0 ≤ x ∧ x < 256) (hi : i + 4 ≤ b.length) (hl : b.length ≤ 9223372036854775807) : Pure Tryz.prog 105 [VY b, If .i64 i, If .i64 4] (.tup [If .u64 (num4 b i), Bf true]) := by
 refine Meets.intro Tryz.func105 rfl (Nat.le_of_ble_eq_true rfl) fun C hC => ?_
 simp only [List.map, argEnv, Nat.reduceAdd]
 refine nK ?_
 refine za ?_
 refine ze ?_
 refine ze ?_
 refine zb ?_
 refine nK ?_
 refine za ?_
 refine zc ?_
 refine zbq ?_
 refine zc ?_
 refine zl ?_
 refine zbo ?_
 refine zbd ?_
 refine zc ?_
 refine zl ?_
 refine zct ?_
 refine zbd ?_
 refine zc ?_
 refine zl ?_
 refine zl ?_
 refine zci ?_
 refine zl ?_
 refine zdx ?_
 refine zcj ?_
 refine zbd ?_
 refine zb ?_
 refine nK ?_
 refine n_cond _ rfl (fun hb => ?_) (fun hb => ?_)
 ·exfalso; simp at hb; omega
 have hd : ∀ x ∈ (b.drop i).take 4, 0 ≤ x ∧ x < 256 := fun x hx => hbb x (List.mem_of_mem_drop (List.mem_of_mem_take hx))
 have hdl : ((b.drop i).take 4).length = 4 := by simp; omega
 have e0 : ((b.map encY).drop i).take (i + 4 - i) = ((b.drop i).take 4).map encY := by rw [Nat.add_sub_cancel_left, ← List.map_drop, ← List.map_take]
 have en : num4 b i = fN ((b.drop i).take 4) := rfl
 rw [en]
 generalize (b.drop i).take 4 = d at *
 refine nK ?_
 refine za ?_
 refine ze ?_
 refine zb ?_
 refine nK ?_
 refine za ?_
 refine zc ?_
 refine zc ?_
 refine zc ?_
 refine zc ?_
 refine zbm ?_
 refine rpZ 34 rfl (op_slice_fz (l := i) (h := i + 4) (rs := d.map encY) rfl (oT rfl) (Bnd.yes _ _ _ _ _ (oT rfl) tQ) (Bnd.yes _ _ _ _ _ (oT rfl) tQ) (by intro _; refine ⟨by omega, by rw [List.length_map]; omega, e0⟩)) ?_
 refine zk ?_
 refine zx ?_
 refine zb ?_
 refine nK ?_
 refine n_loop (ι := Nat) (fun j => ([(8, IV .u64 (fN (d.take j))), (34, .fz (VY d)), (35, IV .i64 d.length), (36, IV .i64 j)], [], 0)) (fun j => j ≤ d.length) (fun j => d.length - j) 0 (Nat.zero_le _) ?_ ?_
 ·refine Next.weak [] [] (by rfl) (keeps0 hC _) wHE2a wHE2b wN rel_intro
 intro j hj K hK
 obtain ⟨m, hm, hmb⟩ := fN_bd (l := d.take j) fun x hx => hd x (List.mem_of_mem_take hx)
 refine nK ?_
 refine za ?_
 refine zn ?_
 refine zb ?_
 refine nK ?_
 refine n_cond _ rfl (fun hb => ?_) (fun hb => ?_)
 ·have hlt : j < d.length := by simp at hb; omega
  have hr1 := row_at' encY d j hlt
  have hK1 := hK (j + 1) (by omega) (by omega)
  rw [fN_take hlt, hm] at hK1
  obtain ⟨q1, q2⟩ := hd _ (List.getElem_mem hlt)
  have hm2 : m < 256 ^ 3 := Nat.lt_of_lt_of_le hmb (Nat.pow_le_pow_right (by omega) (by simp; omega))
  rw [hm]
  generalize d[j] = c at *
  obtain ⟨c', hc'⟩ : ∃ c' : Nat, c = c' := ⟨c.toNat, by omega⟩
  subst hc'
  have hor := shl_or m c' (by omega)
  refine nK ?_
  refine za ?_
  refine zr ?_
  refine zt ?_
  refine zd ?_
  refine zb ?_
  refine nK ?_
  refine za ?_
  refine zc ?_
  refine rpZ 41 rfl (op_shlN 8 rfl (oT rfl) oC (by intro _; simp only [IntKind.bits, inr]; omega)) ?_
  refine zc ?_
  refine zbh ?_
  refine rpZ 44 rfl (castP (fun _ => congrArg (fun z : Nat => IV .u64 z) hor) (op_bits rfl (oT rfl) (oT rfl) (.inr (.inl ⟨rfl, rfl⟩)) (by intro _; simp only [IntKind.bits]; omega) (by intro _; simp only [inr, hor]; omega))) ?_
  refine zd ?_
  refine zb ?_
  refine nK ?_
  refine za ?_
  refine zj ?_
  refine zc ?_
  refine zb ?_
  refine nK ?_
  refine Next.weak [] [] (by rfl) (keeps0 hC _) wHE2a wHE2b wN hK1
 have hje : j = d.length := by simp at hb; omega
 rw [hje, List.take_length]
 refine nK ?_
 refine za ?_
 refine zc ?_
 refine zd ?_
 refine ze ?_
 refine zb ?_
 refine nK ?_
 exact wO hC
end Go.Proofs.YtkofbemgpeagbaaGreat
/- Steps of the loops over labels. No program in sight. -/
namespace Go.Pl
open Go Go.RT
set_option linter.all false
abbrev OG (l : List Rg) : Option Ob := some (.flat 2 (l.map encRg))
abbrev OBn (l : List Bnd) : Option Ob := some (.flat 4 (l.map encBn))
abbrev OW (l : List Int) : Option Ob := some (.flat 1 (l.map encW))
theorem lchk_step {l : List Rg} {i : Nat} (h : i < l.length) : chkG (prvG l i) (l.drop i) = if rgE l[i] ≠ 0 then rgE l[i] else if badG (prvG l i) l[i] = true then 16 else chkG (prvG l (i + 1)) (l.drop (i + 1)) := by
  rw [List.drop_eq_getElem_cons h, prvG_succ h]; rfl
theorem cntLt_step {l : List Rg} {n : Int} {i : Nat} (h : i < l.length) : cntLt n (l.drop i) = if l[i].t < n then cntLt n (l.drop (i + 1)) + 1 else 0 := by
  rw [List.drop_eq_getElem_cons h]; rfl
theorem any_idx {α : Type} (p : α → Bool) (l : List α) : decide (0 ≤ idxAt p 0 l) = l.any p := by
  rcases find_idx p l with ⟨h1, h2⟩ | ⟨j, hj, h1, h2⟩
  · have : l.any p = false := by
      rw [List.find?_eq_none] at h2
      rw [List.any_eq_false]; exact h2
    rw [this]; simp; omega
  · have : l.any p = true := by
      rw [List.any_eq_true]; exact ⟨_, List.getElem_mem hj, List.find?_some h2⟩
    rw [this]; simp; omega
theorem lblE_ok {l : List Rg} (h : lblE l = 0) : vG l := (lblE_iff l).1 h
theorem app1' {α : Type} (l : List α) (x : α) : (l ++ [x]).length = l.length + 1 := by simp
theorem app2' {α β : Type} (f : α → β) (l : List α) (x : α) : (l ++ [x]).map f = l.map f ++ [f x] := by simp
theorem del_rowsG {α : Type} (zE : α) (l : List α) (k i j : Nat) (h1 : i ≤ j) (h2 : j ≤ l.length) :
    ((l ++ List.replicate k zE).take i ++ l.drop j ++ (l ++ List.replicate k zE).drop (i + (l.length - j))).take (i + (l.length - j)) ++ List.replicate (l.length - (i + (l.length - j))) zE
      ++ ((l ++ List.replicate k zE).take i ++ l.drop j ++ (l ++ List.replicate k zE).drop (i + (l.length - j))).drop (i + (l.length - j) + (l.length - (i + (l.length - j))))
      = (l.take i ++ l.drop j) ++ List.replicate (k + (j - i)) zE := by
  have e1 : (l ++ List.replicate k zE).take i = l.take i := by rw [List.take_append_of_le_length (by omega)]
  have e2 : (l.take i ++ l.drop j).length = i + (l.length - j) := by simp; omega
  rw [e1]
  rw [show i + (l.length - j) + (l.length - (i + (l.length - j))) = l.length by omega]
  have e3 : ((l ++ List.replicate k zE).drop (i + (l.length - j))).drop (l.length - (i + (l.length - j))) = List.replicate k zE := by
    rw [List.drop_drop, show i + (l.length - j) + (l.length - (i + (l.length - j))) = l.length by omega, List.drop_left]
  have e4 : List.replicate (l.length - (i + (l.length - j))) zE ++ List.replicate k zE = List.replicate (k + (j - i)) zE := by
    rw [List.replicate_append_replicate]; congr 1; omega
  show _ = (l.take i ++ l.drop j) ++ _
  generalize hA : l.take i ++ l.drop j = A at *
  generalize hB : (l ++ List.replicate k zE).drop (i + (l.length - j)) = B at *
  rw [List.take_left' e2, List.append_assoc, ← e4, ← e3]
  congr 2
  rw [List.drop_append, e2, List.drop_of_length_le (by omega), List.nil_append]
end Go.Pl
namespace Go.Proofs.YtkofbemgpeagbaaGreat
open Go Go.RT Go.Proofs Go.Pl
set_option linter.all false
set_option maxRecDepth 20000
set_option maxHeartbeats 4000000
theorem wHE3a {α : Prop} (h : α := by repeat (first | exact trivial | refine ⟨⟨_, rfl, .inl ⟨rfl, rfl⟩⟩, ?_⟩)) : α := h
theorem wHE3b {α : Prop} (h : α := by repeat (first | exact trivial | refine ⟨wS, ?_⟩ | refine ⟨ent_same rfl rfl (rfEq rfl tU) tL, ?_⟩ | refine ⟨ent_same rfl rfl (flEq rfl (by first | (simp; done) | (simp; omega) | (simp [encP, encRg, encBn]; done) | simp [maxC, minC])) trivial, ?_⟩)) : α := h
theorem lcheck_c (l : List Rg) (hn : l.length ≤ 9223372036854775807) : Pure Tryz.prog 30 [VRg l] (If .i64 (lblE l)) := by
 refine Meets.intro Tryz.func30 rfl (Nat.le_of_ble_eq_true rfl) fun C hC => ?_
 simp only [List.map, argEnv, Nat.reduceAdd]
 refine nK ?_
 refine za ?_
 refine ze ?_
 refine zb ?_
 refine nK ?_
 refine za ?_
 refine zc ?_
 refine zk ?_
 refine zx ?_
 refine zb ?_
 refine nK ?_
 refine n_loop (ι := Nat) (fun i => ([(0, .fz (VRg l)), (5, .fz (VRg l)), (6, IV .i64 l.length), (7, IV .i64 i)], [], 0)) (fun i => i ≤ l.length ∧ chkG (prvG l i) (l.drop i) = lblE l ∧ ∀ q, prvG l i = some q → vR q) (fun i => l.length - i) 0 ⟨Nat.zero_le _, rfl, fun q hq => by cases hq⟩ ?_ ?_
 ·refine Next.weak [] [] (by rfl) (keeps0 hC _) wHE3a wHE3b wN rel_intro
 intro i ⟨hi, ho, hv⟩ K hK
 refine nK ?_
 refine za ?_
 refine zn ?_
 refine zb ?_
 refine nK ?_
 refine n_cond _ rfl (fun hb => ?_) (fun hb => ?_)
 ·have hlt : i < l.length := by simp at hb; omega
  have hr1 := row_at' encRg l i hlt
  obtain ⟨q, hq⟩ := prv_row encRg l ⟨0, 0⟩ (by omega : i ≤ l.length)
  rw [lchk_step hlt] at ho
  have hK1 := fun h h2 => hK (i + 1) ⟨by omega, h, h2⟩ (by omega)
  have hps := prvG_succ hlt
  generalize l[i] = r at *
  have hbad : badG (prvG l i) r = (decide ((0 : Int) < (i : Int)) && decide (r.f ≤ q.t + 1)) := by
   by_cases h0 : 0 < i
   ·rw [(hq h0).1]; simp [badG, h0]
   have : i = 0 := by omega
   subst this; rfl
  have hE : rgE r = if (decide (r.f < 16) || decide (1048575 < r.t)) = true then 5 else if r.t < r.f then 1 else 0 := rfl
  have hq2 : 0 < i → (l.map encRg)[i - 1]? = some (encRg q) := fun h => (hq h).2
  have hqv : 0 < i → vR q := fun h => hv q (hq h).1
  have hqt : 0 < i → q.t ≤ 1048575 ∧ 16 ≤ q.t := fun h => ⟨(hqv h).hi, by have := (hqv h).lo; have := (hqv h).le; omega⟩
  refine nK ?_
  refine za ?_
  refine zc ?_
  refine zr ?_
  refine zv ?_
  refine zo ?_
  refine zd ?_
  refine zg ?_
  refine zb ?_
  refine nK ?_
  refine za ?_
  refine zf ?_
  refine zh ?_
  refine zbq ?_
  refine zc ?_
  refine zp ?_
  refine zs ?_
  refine zbo ?_
  refine zbd ?_
  refine zd ?_
  refine zb ?_
  refine nK ?_
  refine n_cond _ rfl (fun hb => ?_) (fun hb => ?_)
  ·rw [if_pos hb] at hE
   rw [hE, if_pos (by decide)] at ho
   rw [← ho]
   refine nK ?_
   refine za ?_
   refine ze ?_
   refine zb ?_
   refine nK ?_
   exact wO hC
  rw [if_neg (by rw [hb]; decide)] at hE
  refine nK ?_
  refine za ?_
  refine zf ?_
  refine zh ?_
  refine zf ?_
  refine zh ?_
  refine zbz ?_
  refine zd ?_
  refine zb ?_
  refine nK ?_
  refine n_cond _ rfl (fun hb => ?_) (fun hb => ?_)
  ·rw [if_pos (by simpa using hb)] at hE
   rw [hE, if_pos (by decide)] at ho
   rw [← ho]
   refine nK ?_
   refine za ?_
   refine ze ?_
   refine zb ?_
   refine nK ?_
   exact wO hC
  rw [if_neg (by simpa using hb)] at hE
  rw [if_neg (by rw [hE]; decide), hbad] at ho
  have hr := (rgE_iff r).1 hE
  refine nK ?_
  refine s_draw mixed ?_
  refine zc ?_
  refine zbu ?_
  refine zc ?_
  refine zp ?_
  refine zs ?_
  refine zl ?_
  refine zl ?_
  refine zcf ?_
  refine rgZ 36 rfl rfl tG (op_idx_fz (i - 1) rfl (oO rfl tO) (oO rfl tO) (by intro hg; simp at hg; exact ⟨by omega, hq2 (by omega)⟩)) ?_
  refine zbs ?_
  refine zbt ?_
  refine rgZ 39 rfl rfl tG (op_add rfl (oO rfl tO) oC (by intro hg; simp at hg; have := hqt (by omega); simp only [inr]; omega)) ?_
  refine zcr ?_
  refine zy ?_
  refine zd ?_
  refine zq ?_
  refine nK ?_
  refine n_cond _ rfl (fun hb => ?_) (fun hb => ?_)
  ·rw [if_pos hb] at ho
   rw [← ho]
   refine nK ?_
   refine za ?_
   refine ze ?_
   refine zb ?_
   refine nK ?_
   exact wO hC
  rw [if_neg (by rw [hb]; decide)] at ho
  refine nK ?_
  refine za ?_
  refine zj ?_
  refine zc ?_
  refine zb ?_
  refine nK ?_
  refine Next.weak [] [] (by rfl) (keeps0 hC _) wHE3a wHE3b wN (hK1 ho fun q' hq' => by rw [hps] at hq'; cases hq'; exact hr)
 have hie : i = l.length := by simp at hb; omega
 rw [hie, List.drop_length] at ho
 rw [← ho]
 refine nK ?_
 refine za ?_
 refine ze ?_
 refine zb ?_
 refine nK ?_
 exact wO hC
theorem cloneG_c (l : List Rg) (hn : l.length ≤ 2000000) : Pure Tryz.prog 31 [VRg l] (VRg l) := by
 refine Meets.freeze (rows := l.map encRg) (len := l.length) (by simp) ?_
 refine Meets.intro Tryz.func31 rfl (Nat.le_of_ble_eq_true rfl) fun C hC => ?_
 simp only [List.map, argEnv, Nat.reduceAdd]
 refine nK ?_
 refine za ?_
 refine ze ?_
 refine zb ?_
 refine nK ?_
 refine za ?_
 refine zc ?_
 refine zdi ?_
 refine zb ?_
 refine nK ?_
 refine Next.abool 4 rfl (fun b hb0 => ?_)
 refine nK ?_
 refine n_cond _ rfl (fun hb => ?_) (fun hb => ?_)
 ·have he : l = [] := by have := hb0 hb; simpa using this
  subst he
  refine nK ?_
  refine za ?_
  refine ze ?_
  refine zb ?_
  refine nK ?_
  refine Next.adopt 2 2 rfl ?_
  exact wO hC
 refine nK ?_
 refine za ?_
 refine zcx ?_
 refine zc ?_
 refine zcy ?_
 refine zd ?_
 refine zb ?_
 refine nK ?_
 refine Next.weakS [2] [] (by rfl) (keeps0 hC _) (G' := [(2, .sl 0 2 0 l.length)]) (H' := [(0, OG l)]) wG wHE3b rfl ?_
 exact wO hC
theorem hasP_c (n : Int) (r : Rg) : Pure Tryz.prog 141 [.agg (encRg r), .cellp [If .i64 n]] (Bf (inG n r)) := by
 unfold inG
 refine Meets.intro Tryz.func141 rfl (Nat.le_of_ble_eq_true rfl) fun C hC => ?_
 simp only [List.map, argEnv, Nat.reduceAdd]
 refine nK ?_
 refine za ?_
 refine zu ?_
 refine ze ?_
 refine zb ?_
 refine nK ?_
 refine za ?_
 refine zf ?_
 refine zh ?_
 refine zt ?_
 refine zcs ?_
 refine zc ?_
 refine rgZ 9 rfl rfl tG (op_load1_fz rfl (oT rfl) rfl) ?_
 refine zp ?_
 refine zs ?_
 refine zcr ?_
 refine zy ?_
 refine zd ?_
 refine zb ?_
 refine nK ?_
 exact wO hC
theorem indexG_c (l : List Rg) (hn : l.length ≤ 2000000) (gf : Nat) [FnB Tryz.prog gf] (caps : List FV) (p : Rg → Bool) (hp : ∀ x, Pure Tryz.prog gf ([.agg (encRg x)] ++ caps) (Bf (p x))) : Pure Tryz.prog 156 [VRg l, .clo gf caps] (If .i64 (idxAt p 0 l)) := by
 refine Meets.intro Tryz.func156 rfl (Nat.le_of_ble_eq_true rfl) fun C hC => ?_
 simp only [List.map, argEnv, Nat.reduceAdd]
 refine nK ?_
 refine za ?_
 refine ze ?_
 refine zb ?_
 refine nK ?_
 refine za ?_
 refine zc ?_
 refine zk ?_
 refine zx ?_
 refine zb ?_
 refine nK ?_
 refine n_loop (ι := Nat) (fun i => ([(0, .fz (VRg l)), (1, .fz (.clo gf caps)), (7, IV .i64 l.length), (8, IV .i64 i)], [], 0)) (fun i => i ≤ l.length ∧ idxAt p i (l.drop i) = idxAt p 0 l) (fun i => l.length - i) 0 ⟨Nat.zero_le _, rfl⟩ ?_ ?_
 ·refine Next.weak [] [] (by rfl) (keeps0 hC _) wHE3a wHE3b wN rel_intro
 intro i ⟨hi, ho⟩ K hK
 refine nK ?_
 refine za ?_
 refine zn ?_
 refine zb ?_
 refine nK ?_
 refine n_cond _ rfl (fun hb => ?_) (fun hb => ?_)
 ·have hlt : i < l.length := by simp at hb; omega
  have hr1 := row_at' encRg l i hlt
  rw [List.drop_eq_getElem_cons hlt] at ho
  simp only [idxAt] at ho
  have hK1 := fun h => hK (i + 1) ⟨by omega, h⟩ (by omega)
  generalize l[i] = e at *
  refine nK ?_
  refine za ?_
  refine zc ?_
  refine zd ?_
  refine zb ?_
  refine nK ?_
  refine za ?_
  refine zc ?_
  refine zc ?_
  refine zc ?_
  refine zr ?_
  refine zv ?_
  refine rpZ 16 rfl (op_call_pureC (fun _ => hp e) rfl (oT rfl) (oS (oT rfl) Opds.nil)) ?_
  refine zb ?_
  refine nK ?_
  refine n_cond _ rfl (fun hb => ?_) (fun hb => ?_)
  ·rw [hb, cond_true] at ho
   rw [← ho]
   refine nK ?_
   refine za ?_
   refine zc ?_
   refine zd ?_
   refine zb ?_
   refine nK ?_
   exact wO hC
  rw [hb, cond_false] at ho
  refine nK ?_
  refine za ?_
  refine zj ?_
  refine zc ?_
  refine zb ?_
  refine nK ?_
  refine Next.weak [] [] (by rfl) (keeps0 hC _) wHE3a wHE3b wN (hK1 ho)
 have hie : i = l.length := by simp at hb; omega
 rw [hie, List.drop_length] at ho
 rw [← ho]
 refine nK ?_
 refine za ?_
 refine ze ?_
 refine zb ?_
 refine nK ?_
 exact wO hC
theorem contG_c (l : List Rg) (hn : l.length ≤ 2000000) (gf : Nat) [FnB Tryz.prog gf] (caps : List FV) (p : Rg → Bool) (hp : ∀ x, Pure Tryz.prog gf ([.agg (encRg x)] ++ caps) (Bf (p x))) : Pure Tryz.prog 140 [VRg l, .clo gf caps] (Bf (l.any p)) := by
 have k := indexG_c l hn gf caps p hp
 rw [← any_idx]
 generalize idxAt p 0 l = j at *
 refine Meets.intro Tryz.func140 rfl (Nat.le_of_ble_eq_true rfl) fun C hC => ?_
 simp only [List.map, argEnv, Nat.reduceAdd]
 refine nK ?_
 refine za ?_
 refine ze ?_
 refine zb ?_
 refine nK ?_
 refine za ?_
 refine zc ?_
 refine zc ?_
 refine rpZ 7 rfl (op_call_pure (fun _ => k) rfl (Opd.func _) (oS (oT rfl) (oS (oT rfl) Opds.nil))) ?_
 refine zcg ?_
 refine zd ?_
 refine zb ?_
 refine nK ?_
 exact wO hC
theorem lhas_c (l : List Rg) (n : Int) (hn : l.length ≤ 2000000) : Pure Tryz.prog 110 [VRg l, If .i64 n] (Bf (hasG l n)) := by
 have kc := lcheck_c l (by omega)
 have kk := contG_c l hn 141 [.cellp [If .i64 n]] (inG n) (hasP_c n)
 unfold hasG
 generalize l.any (inG n) = a at *
 refine Meets.intro Tryz.func110 rfl (Nat.le_of_ble_eq_true rfl) fun C hC => ?_
 simp only [List.map, argEnv, Nat.reduceAdd]
 refine nK ?_
 refine za ?_
 refine zu ?_
 refine ze ?_
 refine zb ?_
 refine nK ?_
 refine Next.weakS [] [3] (by rfl) (keeps0 hC _) (G' := [(0, .fz (VRg l)), (3, .fz (.cellp [If .i64 n]))]) (H' := []) wF trivial rfl ?_
 refine nK ?_
 refine za ?_
 refine zc ?_
 refine rpZ 6 rfl (op_call_pure (fun _ => kc) rfl (Opd.func _) (oS (oT rfl) Opds.nil)) ?_
 refine zba ?_
 refine zc ?_
 refine zl ?_
 refine rgZ 10 rfl rfl tG (op_makeFuncF (fs := [.cellp [If .i64 n]]) rfl (oS (oT rfl) Opds.nil)) ?_
 refine rgZ 11 rfl rfl tG (op_call_pure (fun _ => kk) rfl (Opd.func _) (oS (oO rfl tO) (oS (oO rfl tO) Opds.nil))) ?_
 refine zy ?_
 refine zd ?_
 refine zb ?_
 refine nK ?_
 exact wO hC
theorem replace_c (l rs : List Rg) (i j : Nat) (hn : l.length ≤ 2000000) (hr : rs.length ≤ 1000) (hij : i ≤ j) (hj : j ≤ l.length) : Pure Tryz.prog 111 [VRg l, If .i64 i, If .i64 j, VRg rs] (VRg (l.take i ++ rs ++ l.drop j)) := by
 have hl1 : (l.take i).length = i := by simp; omega
 have hl2 : (l.drop j).length = l.length - j := by simp
 have e : VRg (l.take i ++ rs ++ l.drop j) = .vals 2 ((l.take i).map encRg ++ rs.map encRg ++ (l.drop j).map encRg) := by unfold VRg; rw [List.map_append, List.map_append]
 have e1 : (l.map encRg).take i = (l.take i).map encRg := by rw [List.map_take]
 have e2 : ((l.map encRg).drop j).take ((l.map encRg).length - j) = (l.drop j).map encRg := by rw [← List.map_drop, List.take_of_length_le (by simp)]
 rw [e]
 refine Meets.intro Tryz.func111 rfl (Nat.le_of_ble_eq_true rfl) fun C hC => ?_
 simp only [List.map, argEnv, Nat.reduceAdd]
 refine nK ?_
 refine za ?_
 refine ze ?_
 refine zb ?_
 refine nK ?_
 refine za ?_
 refine zc ?_
 refine zc ?_
 refine zc ?_
 refine rpZ 13 rfl (op_slice_cut (h := i) (mx := i) rfl (oT rfl) (Bnd.yes _ _ _ _ _ (oT rfl) tQ) (Bnd.yes _ _ _ _ _ (oT rfl) tQ) (by intro _; exact ⟨rfl, by rw [List.length_map]; omega, e1⟩)) ?_
 refine zc ?_
 refine Run.eff (dd := some 15) rfl rfl (op_append_cut rfl (oT rfl) (oT rfl) (by rw [List.length_map]; exact hl1) rfl rfl tB tB) ?_
 refine zd ?_
 refine zb ?_
 refine nK ?_
 have hl3 : ((l.take i).map encRg ++ rs.map encRg).length = i + rs.length := by rw [List.length_append, List.length_map, List.length_map, hl1]
 refine nK ?_
 refine s_draw mixed ?_
 refine zc ?_
 refine zc ?_
 refine zk ?_
 refine zc ?_
 refine zk ?_
 refine rpZ 21 rfl (op_slice_cut (h := i + rs.length) (mx := i + rs.length) rfl (oT rfl) (Bnd.yes _ _ _ _ _ (oT rfl) (by intro _; rw [hl3])) (Bnd.yes _ _ _ _ _ (oT rfl) (by intro _; rw [hl3])) (by intro _; exact ⟨rfl, by rw [hl3]; omega, List.take_of_length_le (by rw [hl3]; omega)⟩)) ?_
 refine zc ?_
 refine zc ?_
 refine rpZ 24 rfl (op_slice_fz (l := j) (h := (l.map encRg).length) (rs := (l.drop j).map encRg) rfl (oT rfl) (Bnd.yes _ _ _ _ _ (oT rfl) tQ) (Bnd.no _) (by intro _; exact ⟨by rw [List.length_map]; exact hj, Nat.le_refl _, e2⟩)) ?_
 refine Run.effW (dd := some 25) rfl rfl (op_append_cut rfl (oT rfl) (oT rfl) hl3 rfl rfl (by rw [List.length_map]; omega) (by rw [List.length_map]; omega)) tE ?_
 refine zd ?_
 refine zq ?_
 refine nK ?_
 exact wO hC
theorem ltake_c (l : List Rg) (hn : l.length ≤ 1000000) : Pure Tryz.prog 112 [VRg l] (.tup [If .i64 (takeF l).1, VRg (takeF l).2.1, If .i64 (takeF l).2.2]) := by
 have kc := lcheck_c l (by omega)
 unfold takeF
 refine Meets.intro Tryz.func112 rfl (Nat.le_of_ble_eq_true rfl) fun C hC => ?_
 simp only [List.map, argEnv, Nat.reduceAdd]
 refine nK ?_
 refine za ?_
 refine ze ?_
 refine ze ?_
 refine ze ?_
 refine zb ?_
 refine nK ?_
 refine za ?_
 refine zc ?_
 refine rpZ 8 rfl (op_call_pure (fun _ => kc) rfl (Opd.func _) (oS (oT rfl) Opds.nil)) ?_
 refine zd ?_
 refine zb ?_
 refine nK ?_
 refine za ?_
 refine zc ?_
 refine zbe ?_
 refine zb ?_
 refine nK ?_
 refine n_cond _ rfl (fun hb => ?_) (fun hb => ?_)
 ·have h : lblE l ≠ 0 := by simpa using hb
  rw [if_pos h]
  refine nK ?_
  refine za ?_
  refine zc ?_
  refine ze ?_
  refine ze ?_
  refine zd ?_
  refine zb ?_
  refine nK ?_
  refine Next.weakS [] [] (by rfl) (keeps0 hC _) (G' := [(2, IV .i64 0), (3, .fz (VRg [])), (4, IV .i64 (lblE l))]) (H' := []) wF trivial rfl ?_
  exact wO hC
 have h : lblE l = 0 := by simpa using hb
 rw [if_neg (by simpa using h)]
 have hv := lblE_ok h
 refine nK ?_
 refine za ?_
 refine zc ?_
 refine zk ?_
 refine zba ?_
 refine zb ?_
 refine nK ?_
 refine n_cond _ rfl (fun hb => ?_) (fun hb => ?_)
 ·have e : l = [] := by simpa using hb
  subst e
  refine nK ?_
  refine za ?_
  refine ze ?_
  refine ze ?_
  refine ze ?_
  refine zb ?_
  refine nK ?_
  refine Next.weakS [] [] (by rfl) (keeps0 hC _) (G' := [(2, IV .i64 0), (3, .fz (VRg [])), (4, IV .i64 8)]) (H' := []) wF trivial rfl ?_
  exact wO hC
 match l, hn, hb, hv with
 | [], _, hb, _ => simp at hb
 | r :: t, hn, hb, hv =>
 have ht : t.length ≤ 1000000 := by simp at hn; omega
 have kt := cloneG_c t (by omega)
 have kr := replace_c (r :: t) [⟨r.f + 1, r.t⟩] 0 1 (by omega) (by simp) (by omega) (by simp)
 have hr := hv.hd.1
 have h1 := hr.lo
 have h2 := hr.le
 have h3 := hr.hi
 have hrow : ((r :: t).map encRg)[0]? = some (encRg r) := rfl
 dsimp only
 simp only [takeL]
 refine nK ?_
 refine za ?_
 refine zc ?_
 refine rpZ 16 rfl (op_idx_fz 0 rfl (oT rfl) oC (by intro _; exact ⟨rfl, hrow⟩)) ?_
 refine zv ?_
 refine zo ?_
 refine zg ?_
 refine zb ?_
 refine nK ?_
 refine nK ?_
 refine za ?_
 refine zf ?_
 refine zh ?_
 refine zf ?_
 refine zh ?_
 refine zbx ?_
 refine zb ?_
 refine nK ?_
 refine n_cond _ rfl (fun hb => ?_) (fun hb => ?_)
 ·rw [if_pos (by simpa using hb)]
  refine nK ?_
  refine s_draw mixed ?_
  refine zf ?_
  refine zh ?_
  refine zc ?_
  refine rpZ 26 rfl (op_slice_fz (l := 1) (h := ((r :: t).map encRg).length) (rs := t.map encRg) rfl (oT rfl) (Bnd.yes _ _ _ _ _ oC tQ) (Bnd.no _) (by intro _; exact ⟨by simp, Nat.le_refl _, by rw [List.take_of_length_le (by simp)]; rfl⟩)) ?_
  refine rpZ 27 rfl (op_call_pure (fun _ => kt) rfl (Opd.func _) (oS (oT rfl) Opds.nil)) ?_
  refine zd ?_
  refine zd ?_
  refine ze ?_
  refine zq ?_
  refine nK ?_
  exact wO hC
 rw [if_neg (by simpa using hb)]
 refine nK ?_
 refine s_draw mixed ?_
 refine zf ?_
 refine zh ?_
 refine zc ?_
 refine zf ?_
 refine zh ?_
 refine zj ?_
 refine zf ?_
 refine zh ?_
 refine zbn ?_
 refine zqqz ?_
 refine rpZ 38 rfl (op_call_pure (fun _ => kr) rfl (Opd.func _) (oS (oT rfl) (oS oC (oS oC (oS (oT rfl) Opds.nil))))) ?_
 refine zd ?_
 refine zd ?_
 refine ze ?_
 refine zq ?_
 refine nK ?_
 exact wO hC
theorem lgive_c (l : List Rg) (n : Int) (hn : l.length ≤ 1000000) (hr : inr .i64 n) : Pure Tryz.prog 72 [VRg l, If .i64 n] (.tup [VRg (giveF l n).1, If .i64 (giveF l n).2]) := by
 have kc := lcheck_c l (by omega)
 have kh := lhas_c l n (by omega)
 unfold giveF
 refine Meets.intro Tryz.func72 rfl (Nat.le_of_ble_eq_true rfl) fun C hC => ?_
 simp only [List.map, argEnv, Nat.reduceAdd]
 refine nK ?_
 refine za ?_
 refine ze ?_
 refine ze ?_
 refine zb ?_
 refine nK ?_
 refine za ?_
 refine zc ?_
 refine rpZ 12 rfl (op_call_pure (fun _ => kc) rfl (Opd.func _) (oS (oT rfl) Opds.nil)) ?_
 refine zd ?_
 refine zb ?_
 refine nK ?_
 refine za ?_
 refine zc ?_
 refine zbe ?_
 refine zb ?_
 refine nK ?_
 refine n_cond _ rfl (fun hb => ?_) (fun hb => ?_)
 ·have h : lblE l ≠ 0 := by simpa using hb
  rw [if_pos h]
  refine nK ?_
  refine za ?_
  refine zc ?_
  refine ze ?_
  refine zd ?_
  refine zb ?_
  refine nK ?_
  refine Next.weakS [] [] (by rfl) (keeps0 hC _) (G' := [(4, .fz (VRg [])), (5, IV .i64 (lblE l))]) (H' := []) wF trivial rfl ?_
  exact wO hC
 have h : lblE l = 0 := by simpa using hb
 rw [if_neg (by simpa using h)]
 have hv := lblE_ok h
 have hh : hasG l n = l.any (inG n) := by unfold hasG; simp [h]
 rw [hh] at kh
 refine nK ?_
 refine za ?_
 refine zc ?_
 refine zbq ?_
 refine zc ?_
 refine zl ?_
 refine zbo ?_
 refine zbd ?_
 refine zb ?_
 refine nK ?_
 refine n_cond _ rfl (fun hb => ?_) (fun hb => ?_)
 ·rw [if_pos hb]
  refine nK ?_
  refine za ?_
  refine ze ?_
  refine ze ?_
  refine zb ?_
  refine nK ?_
  refine Next.weakS [] [] (by rfl) (keeps0 hC _) (G' := [(4, .fz (VRg [])), (5, IV .i64 5)]) (H' := []) wF trivial rfl ?_
  exact wO hC
 rw [if_neg (by rw [hb]; decide)]
 have hrn : 16 ≤ n ∧ n ≤ 1048575 := by simp at hb; omega
 refine nK ?_
 refine za ?_
 refine zc ?_
 refine zc ?_
 refine rpZ 24 rfl (op_call_pure (fun _ => kh) rfl (Opd.func _) (oS (oT rfl) (oS (oT rfl) Opds.nil))) ?_
 refine zb ?_
 refine nK ?_
 refine n_cond _ rfl (fun hb => ?_) (fun hb => ?_)
 ·rw [if_pos hb]
  refine nK ?_
  refine za ?_
  refine ze ?_
  refine ze ?_
  refine zb ?_
  refine nK ?_
  refine Next.weakS [] [] (by rfl) (keeps0 hC _) (G' := [(4, .fz (VRg [])), (5, IV .i64 7)]) (H' := []) wF trivial rfl ?_
  exact wO hC
 rw [if_neg (by rw [hb]; decide)]
 have hm : mG l n = false := hb
 rw [← pgF_eq hv hm]
 have hle := cntLt_le n l
 refine nK ?_
 refine za ?_
 refine ze ?_
 refine zb ?_
 refine nK ?_
 refine n_loop (ι := Nat) (fun i => ([(0, .fz (VRg l)), (1, IV .i64 n), (7, IV .i64 i)], [], 0)) (fun i => i ≤ l.length ∧ cntLt n (l.drop i) + i = cntLt n l) (fun i => l.length - i) 0 ⟨Nat.zero_le _, rfl⟩ ?_ ?_
 ·refine Next.weak [] [] (by rfl) (keeps0 hC _) wHE3a wHE3b wN rel_intro
 intro i ⟨hi, ho⟩ K hK
 refine nK ?_
 obtain ⟨q, hq⟩ : ∃ q : Rg, i < l.length → (l.map encRg)[i]? = some (encRg q) ∧ l[i]? = some q := by
  by_cases hlt : i < l.length
  ·exact ⟨l[i], fun _ => ⟨row_at' encRg l i hlt, List.getElem?_eq_getElem hlt⟩⟩
  exact ⟨⟨0, 0⟩, fun h => absurd h hlt⟩
 refine nK ?_
 refine za ?_
 refine zc ?_
 refine zc ?_
 refine zk ?_
 refine zn ?_
 refine zc ?_
 refine zl ?_
 refine zl ?_
 refine rgZ 32 rfl rfl tG (op_idx_fz i rfl (oO rfl tO) (oO rfl tO) (by intro hg; simp at hg; exact ⟨rfl, (hq (by omega)).1⟩)) ?_
 refine zbs ?_
 refine zbt ?_
 refine zl ?_
 refine zcv ?_
 refine zy ?_
 refine zb ?_
 refine nK ?_
 refine n_cond _ rfl (fun hb => ?_) (fun hb => ?_)
 ·have hb2 : i < l.length ∧ q.t < n := by simp at hb; exact ⟨by omega, hb.2⟩
  have hgi : l[i]'hb2.1 = q := by have := (hq hb2.1).2; rw [List.getElem?_eq_getElem hb2.1] at this; exact Option.some.inj this
  rw [cntLt_step hb2.1, hgi, if_pos hb2.2] at ho
  refine nK ?_
  refine za ?_
  refine zc ?_
  refine zj ?_
  refine zd ?_
  refine zb ?_
  refine nK ?_
  refine Next.weak [] [] (by rfl) (keeps0 hC _) wHE3a wHE3b wN (hK (i + 1) ⟨by omega, by omega⟩ (by omega))
 have hc : cntLt n l = i := by
  by_cases hlt : i < l.length
  ·have hgi : l[i] = q := by have := (hq hlt).2; rw [List.getElem?_eq_getElem hlt] at this; exact Option.some.inj this
   have : ¬ q.t < n := by intro h; simp [h] at hb; omega
   rw [cntLt_step hlt, hgi, if_neg this] at ho; omega
  rw [List.drop_eq_nil_of_le (by omega)] at ho; simp [cntLt] at ho; omega
 clear hK
 have hPi : pgF l n = ⟨if 0 < i ∧ (l.getD (i - 1) ⟨0, 0⟩).t = n - 1 then i - 1 else i, if i < l.length ∧ (l.getD i ⟨0, 0⟩).f = n + 1 then i + 1 else i, if 0 < i ∧ (l.getD (i - 1) ⟨0, 0⟩).t = n - 1 then (l.getD (i - 1) ⟨0, 0⟩).f else n, if i < l.length ∧ (l.getD i ⟨0, 0⟩).f = n + 1 then (l.getD i ⟨0, 0⟩).t else n⟩ := by rw [← hc]; rfl
 obtain ⟨p, hp⟩ : ∃ p : Rg, 0 < i → (l.map encRg)[i - 1]? = some (encRg p) ∧ l.getD (i - 1) ⟨0, 0⟩ = p ∧ vR p := by
  by_cases h0 : 0 < i
  ·have hlt : i - 1 < l.length := by omega
   exact ⟨l[i - 1], fun _ => ⟨row_at' encRg l (i - 1) hlt, by simp [List.getD, hlt], hv.v _ (List.getElem_mem hlt)⟩⟩
  exact ⟨⟨0, 0⟩, fun h => absurd h h0⟩
 have hq3 : i < l.length → l.getD i ⟨0, 0⟩ = q ∧ vR q := fun h => by
  have h1 := (hq h).2
  rw [List.getElem?_eq_getElem h] at h1
  have h2 := Option.some.inj h1
  exact ⟨by rw [← h2]; simp [List.getD, h], h2 ▸ hv.v _ (List.getElem_mem h)⟩
 rw [hPi]
 refine nK ?_
 refine za ?_
 refine zc ?_
 refine zc ?_
 refine zc ?_
 refine zc ?_
 refine zbn ?_
 refine zo ?_
 refine zd ?_
 refine zd ?_
 refine zg ?_
 refine zb ?_
 refine nK ?_
 refine za ?_
 refine zc ?_
 refine zbu ?_
 refine zc ?_
 refine zl ?_
 refine zl ?_
 refine zcf ?_
 refine rgZ 51 rfl rfl tG (op_idx_fz (i - 1) rfl (oO rfl tO) (oO rfl tO) (by intro hg; simp at hg; exact ⟨by omega, (hp (by omega)).1⟩)) ?_
 refine zbs ?_
 refine zbt ?_
 refine zl ?_
 refine zcf ?_
 refine zbp ?_
 refine zy ?_
 refine zb ?_
 refine nK ?_
 refine n_cond _ rfl (fun hb => ?_) (fun hb => ?_)
 ·have hA : 0 < i ∧ (l.getD (i - 1) ⟨0, 0⟩).t = n - 1 := by
   simp at hb
   have h0 : 0 < i := by omega
   exact ⟨h0, by rw [(hp h0).2.1]; omega⟩
  obtain ⟨hp1, hp2, hp3⟩ := hp hA.1
  rw [if_pos hA, if_pos hA, hp2]
  refine nK ?_
  refine s_draw mixed ?_
  refine zc ?_
  refine zbv ?_
  refine zc ?_
  refine zc ?_
  refine zbv ?_
  refine rpZ 63 rfl (op_idx_fz (i - 1) rfl (oT rfl) (oT rfl) (by intro _; exact ⟨by omega, hp1⟩)) ?_
  refine zbf ?_
  refine zt ?_
  refine zd ?_
  refine zf ?_
  refine zch ?_
  refine zq ?_
  refine nK ?_
  refine za ?_
  refine zc ?_
  refine zc ?_
  refine zk ?_
  refine zn ?_
  refine zc ?_
  refine zl ?_
  refine zl ?_
  refine rgZ 74 rfl rfl tG (op_idx_fz i rfl (oO rfl tO) (oO rfl tO) (by intro hg; simp at hg; exact ⟨rfl, (hq (by omega)).1⟩)) ?_
  refine zbs ?_
  refine zbt ?_
  refine zl ?_
  refine rgZ 78 rfl rfl tG (op_add rfl (oO rfl tO) oC (by intro _; simp only [inr]; omega)) ?_
  refine zbp ?_
  refine zy ?_
  refine zb ?_
  refine nK ?_
  refine n_cond _ rfl (fun hb => ?_) (fun hb => ?_)
  ·have hB : i < l.length ∧ (l.getD i ⟨0, 0⟩).f = n + 1 := by
    simp at hb
    have h0 : i < l.length := by omega
    exact ⟨h0, by rw [(hq3 h0).1]; omega⟩
   obtain ⟨hq4, hq5⟩ := hq3 hB.1
   have hq6 := (hq hB.1).1
   rw [if_pos hB, if_pos hB, hq4]
   have kr := replace_c l [⟨p.f, q.t⟩] (i - 1) (i + 1) (by omega) (by simp) (by omega) (by omega)
   rw [show l.take (i - 1) ++ [(⟨p.f, q.t⟩ : Rg)] ++ l.drop (i + 1) = repG l (i - 1) (i + 1) ⟨p.f, q.t⟩ by simp [repG]] at kr
   rw [show ((i - 1 : Nat) : Int) = (i : Int) - 1 by omega] at kr
   rw [show ((i + 1 : Nat) : Int) = (i : Int) + 1 by omega] at kr
   refine nK ?_
   refine s_draw mixed ?_
   refine zc ?_
   refine zj ?_
   refine zc ?_
   refine zc ?_
   refine rpZ 85 rfl (op_idx_fz i rfl (oT rfl) (oT rfl) (by intro _; exact ⟨rfl, hq6⟩)) ?_
   refine zbf ?_
   refine zt ?_
   refine zd ?_
   refine zf ?_
   refine zch ?_
   refine zq ?_
   refine nK ?_
   refine za ?_
   refine zc ?_
   refine zc ?_
   refine zc ?_
   refine zm ?_
   refine zqqz ?_
   refine rpZ 94 rfl (op_call_pure (fun _ => kr) rfl (Opd.func _) (oS (oT rfl) (oS (oT rfl) (oS (oT rfl) (oS (oT rfl) Opds.nil))))) ?_
   refine zd ?_
   refine ze ?_
   refine zb ?_
   refine nK ?_
   exact wO hC
  have hB : ¬ (i < l.length ∧ (l.getD i ⟨0, 0⟩).f = n + 1) := by
   rintro ⟨h0, h1⟩
   rw [(hq3 h0).1] at h1
   simp [h1] at hb; omega
  rw [if_neg hB, if_neg hB]
  have kr := replace_c l [⟨p.f, n⟩] (i - 1) (i) (by omega) (by simp) (by omega) (by omega)
  rw [show l.take (i - 1) ++ [(⟨p.f, n⟩ : Rg)] ++ l.drop (i) = repG l (i - 1) (i) ⟨p.f, n⟩ by simp [repG]] at kr
  rw [show ((i - 1 : Nat) : Int) = (i : Int) - 1 by omega] at kr
  refine nK ?_
  refine za ?_
  refine zc ?_
  refine zc ?_
  refine zc ?_
  refine zm ?_
  refine zqqz ?_
  refine rpZ 94 rfl (op_call_pure (fun _ => kr) rfl (Opd.func _) (oS (oT rfl) (oS (oT rfl) (oS (oT rfl) (oS (oT rfl) Opds.nil))))) ?_
  refine zd ?_
  refine ze ?_
  refine zb ?_
  refine nK ?_
  exact wO hC
 have hA : ¬ (0 < i ∧ (l.getD (i - 1) ⟨0, 0⟩).t = n - 1) := by
  rintro ⟨h0, h1⟩
  rw [(hp h0).2.1] at h1
  simp [h1] at hb; omega
 rw [if_neg hA, if_neg hA]
 refine nK ?_
 refine za ?_
 refine zc ?_
 refine zc ?_
 refine zk ?_
 refine zn ?_
 refine zc ?_
 refine zl ?_
 refine zl ?_
 refine rgZ 74 rfl rfl tG (op_idx_fz i rfl (oO rfl tO) (oO rfl tO) (by intro hg; simp at hg; exact ⟨rfl, (hq (by omega)).1⟩)) ?_
 refine zbs ?_
 refine zbt ?_
 refine zl ?_
 refine rgZ 78 rfl rfl tG (op_add rfl (oO rfl tO) oC (by intro _; simp only [inr]; omega)) ?_
 refine zbp ?_
 refine zy ?_
 refine zb ?_
 refine nK ?_
 refine n_cond _ rfl (fun hb => ?_) (fun hb => ?_)
 ·have hB : i < l.length ∧ (l.getD i ⟨0, 0⟩).f = n + 1 := by
   simp at hb
   have h0 : i < l.length := by omega
   exact ⟨h0, by rw [(hq3 h0).1]; omega⟩
  obtain ⟨hq4, hq5⟩ := hq3 hB.1
  have hq6 := (hq hB.1).1
  rw [if_pos hB, if_pos hB, hq4]
  have kr := replace_c l [⟨n, q.t⟩] (i) (i + 1) (by omega) (by simp) (by omega) (by omega)
  rw [show l.take (i) ++ [(⟨n, q.t⟩ : Rg)] ++ l.drop (i + 1) = repG l (i) (i + 1) ⟨n, q.t⟩ by simp [repG]] at kr
  rw [show ((i + 1 : Nat) : Int) = (i : Int) + 1 by omega] at kr
  refine nK ?_
  refine s_draw mixed ?_
  refine zc ?_
  refine zj ?_
  refine zc ?_
  refine zc ?_
  refine rpZ 85 rfl (op_idx_fz i rfl (oT rfl) (oT rfl) (by intro _; exact ⟨rfl, hq6⟩)) ?_
  refine zbf ?_
  refine zt ?_
  refine zd ?_
  refine zf ?_
  refine zch ?_
  refine zq ?_
  refine nK ?_
  refine za ?_
  refine zc ?_
  refine zc ?_
  refine zc ?_
  refine zm ?_
  refine zqqz ?_
  refine rpZ 94 rfl (op_call_pure (fun _ => kr) rfl (Opd.func _) (oS (oT rfl) (oS (oT rfl) (oS (oT rfl) (oS (oT rfl) Opds.nil))))) ?_
  refine zd ?_
  refine ze ?_
  refine zb ?_
  refine nK ?_
  exact wO hC
 have hB : ¬ (i < l.length ∧ (l.getD i ⟨0, 0⟩).f = n + 1) := by
  rintro ⟨h0, h1⟩
  rw [(hq3 h0).1] at h1
  simp [h1] at hb; omega
 rw [if_neg hB, if_neg hB]
 have kr := replace_c l [⟨n, n⟩] (i) (i) (by omega) (by simp) (by omega) (by omega)
 rw [show l.take (i) ++ [(⟨n, n⟩ : Rg)] ++ l.drop (i) = repG l (i) (i) ⟨n, n⟩ by simp [repG]] at kr
 refine nK ?_
 refine za ?_
 refine zc ?_
 refine zc ?_
 refine zc ?_
 refine zm ?_
 refine zqqz ?_
 refine rpZ 94 rfl (op_call_pure (fun _ => kr) rfl (Opd.func _) (oS (oT rfl) (oS (oT rfl) (oS (oT rfl) (oS (oT rfl) Opds.nil))))) ?_
 refine zd ?_
 refine ze ?_
 refine zb ?_
 refine nK ?_
 exact wO hC
open Go Go.RT Go.Proofs Go.Pl
set_option maxRecDepth 20000
set_option maxHeartbeats 4000000
theorem wHE4a {α : Prop} (h : α := by repeat (first | exact trivial | refine ⟨wS, ?_⟩ | refine ⟨ent_same rfl rfl (rfEq rfl tU) tL, ?_⟩ | refine ⟨ent_same rfl rfl (flEq rfl (by first | (simp; done) | (simp; omega) | (simp [encP, encRg, encBn]; done) | simp [maxC, minC])) trivial, ?_⟩)) : α := h
theorem wHE4b {α : Prop} (h : α := by repeat (first | exact trivial | refine ⟨⟨_, rfl, .inl ⟨rfl, rfl⟩⟩, ?_⟩)) : α := h
theorem wHE4c {α : Prop} (h : α := by repeat (first | exact trivial | refine ⟨⟨rfl, rfl, rfl, tL⟩, ?_⟩)) : α := h
theorem kept_row {α : Type} (enc : α → List FV) (c l : List α) (j : Nat) (h : c.length ≤ j) (hj : j < l.length) : ((c ++ l.drop c.length).map enc)[j]? = some (enc l[j]) := by
 rw [List.getElem?_map, kept_get c l j h, List.getElem?_eq_getElem hj]; rfl
theorem cloneB_f (l : List Bnd) (hn : l.length ≤ 2000000) : Meets Tryz.prog 60 ([VBn l].map PV.fz) 0 [] (.sl 0 4 0 l.length) [(0, OBn l)] 1 := by
 refine Meets.intro Tryz.func60 rfl (Nat.le_of_ble_eq_true rfl) fun C hC => ?_
 simp only [List.map, argEnv, Nat.reduceAdd]
 refine nK ?_
 refine za ?_
 refine ze ?_
 refine zb ?_
 refine nK ?_
 refine za ?_
 refine zc ?_
 refine zdi ?_
 refine zb ?_
 refine nK ?_
 refine Next.abool 4 rfl (fun b hb0 => ?_)
 refine nK ?_
 refine n_cond _ rfl (fun hb => ?_) (fun hb => ?_)
 ·have he : l = [] := by have := hb0 hb; simpa using this
  subst he
  refine nK ?_
  refine za ?_
  refine ze ?_
  refine zb ?_
  refine nK ?_
  refine Next.adopt 2 4 rfl ?_
  exact wO hC
 refine nK ?_
 refine za ?_
 refine zcx ?_
 refine zc ?_
 refine zcy ?_
 refine zd ?_
 refine zb ?_
 refine nK ?_
 refine Next.weakS [2] [] (by rfl) (keeps0 hC _) (G' := [(2, .sl 0 4 0 l.length)]) (H' := [(0, OBn l)]) wG wHE4a rfl ?_
 exact wO hC
theorem cloneB_c (l : List Bnd) (hn : l.length ≤ 2000000) : Pure Tryz.prog 60 [VBn l] (VBn l) := (cloneB_f l hn).freeze (by simp)
theorem of_c (p : Pfx) (n : Int) : Pure Tryz.prog 88 [.agg (encP p), If .u32 n] (.clo 131 [.cellp (encP p), .cellp [If .u32 n]]) := by
 refine Meets.intro Tryz.func88 rfl (Nat.le_of_ble_eq_true rfl) fun C hC => ?_
 simp only [List.map, argEnv, Nat.reduceAdd]
 refine nK ?_
 refine za ?_
 refine zu ?_
 refine zu ?_
 refine ze ?_
 refine zb ?_
 refine nK ?_
 refine Next.weakS [] [2, 3] (by rfl) (keeps0 hC _) (G' := [(2, .fz (.cellp (encP p))), (3, .fz (.cellp [If .u32 n]))]) (H' := []) wF trivial rfl ?_
 refine nK ?_
 refine za ?_
 refine rpZ 5 rfl (op_makeFuncF (fs := [.cellp (encP p), .cellp [If .u32 n]]) rfl (oS (oT rfl) (oS (oT rfl) Opds.nil))) ?_
 refine zd ?_
 refine zb ?_
 refine nK ?_
 exact wO hC
theorem ofT_c (p : Pfx) (n : Int) (b : Bnd) : Pure Tryz.prog 131 [.agg (encBn b), .cellp (encP p), .cellp [If .u32 n]] (Bf (isBn p n b)) := by
 have e : isBn p n b = (eqFs (encP b.px) (encP p) && decide (b.pe = n)) := by rw [eqFs_encP]; rfl
 rw [e]
 refine Meets.intro Tryz.func131 rfl (Nat.le_of_ble_eq_true rfl) fun C hC => ?_
 simp only [List.map, argEnv, Nat.reduceAdd]
 refine nK ?_
 refine za ?_
 refine zu ?_
 refine ze ?_
 refine zb ?_
 refine nK ?_
 refine za ?_
 refine zf ?_
 refine zbc ?_
 refine zv ?_
 refine zcp ?_
 refine zc ?_
 refine zp ?_
 refine zs ?_
 refine rgZ 12 rfl rfl tG (op_load1_fz rfl (oT rfl) rfl) ?_
 refine zbp ?_
 refine zy ?_
 refine zd ?_
 refine zb ?_
 refine nK ?_
 exact wO hC
theorem indexB_c (l : List Bnd) (hn : l.length ≤ 2000000) (gf : Nat) [FnB Tryz.prog gf] (caps : List FV) (p : Bnd → Bool) (hp : ∀ x, Pure Tryz.prog gf ([.agg (encBn x)] ++ caps) (Bf (p x))) : Pure Tryz.prog 87 [VBn l, .clo gf caps] (If .i64 (idxAt p 0 l)) := by
 refine Meets.intro Tryz.func87 rfl (Nat.le_of_ble_eq_true rfl) fun C hC => ?_
 simp only [List.map, argEnv, Nat.reduceAdd]
 refine nK ?_
 refine za ?_
 refine ze ?_
 refine zb ?_
 refine nK ?_
 refine za ?_
 refine zc ?_
 refine zk ?_
 refine zx ?_
 refine zb ?_
 refine nK ?_
 refine n_loop (ι := Nat) (fun i => ([(0, .fz (VBn l)), (1, .fz (.clo gf caps)), (7, IV .i64 l.length), (8, IV .i64 i)], [], 0)) (fun i => i ≤ l.length ∧ idxAt p i (l.drop i) = idxAt p 0 l) (fun i => l.length - i) 0 ⟨Nat.zero_le _, rfl⟩ ?_ ?_
 ·refine Next.weak [] [] (by rfl) (keeps0 hC _) wHE4b wHE4a wN rel_intro
 intro i ⟨hi, ho⟩ K hK
 refine nK ?_
 refine za ?_
 refine zn ?_
 refine zb ?_
 refine nK ?_
 refine n_cond _ rfl (fun hb => ?_) (fun hb => ?_)
 ·have hlt : i < l.length := by simp at hb; omega
  have hr1 := row_at' encBn l i hlt
  rw [List.drop_eq_getElem_cons hlt] at ho
  simp only [idxAt] at ho
  have hK1 := fun h => hK (i + 1) ⟨by omega, h⟩ (by omega)
  generalize l[i] = e at *
  refine nK ?_
  refine za ?_
  refine zc ?_
  refine zd ?_
  refine zb ?_
  refine nK ?_
  refine za ?_
  refine zc ?_
  refine zc ?_
  refine zc ?_
  refine zr ?_
  refine zv ?_
  refine rpZ 16 rfl (op_call_pureC (fun _ => hp e) rfl (oT rfl) (oS (oT rfl) Opds.nil)) ?_
  refine zb ?_
  refine nK ?_
  refine n_cond _ rfl (fun hb => ?_) (fun hb => ?_)
  ·rw [hb, cond_true] at ho
   rw [← ho]
   refine nK ?_
   refine za ?_
   refine zc ?_
   refine zd ?_
   refine zb ?_
   refine nK ?_
   exact wO hC
  rw [hb, cond_false] at ho
  refine nK ?_
  refine za ?_
  refine zj ?_
  refine zc ?_
  refine zb ?_
  refine nK ?_
  refine Next.weak [] [] (by rfl) (keeps0 hC _) wHE4b wHE4a wN (hK1 ho)
 have hie : i = l.length := by simp at hb; omega
 rw [hie, List.drop_length] at ho
 rw [← ho]
 refine nK ?_
 refine za ?_
 refine ze ?_
 refine zb ?_
 refine nK ?_
 exact wO hC
theorem find_c (l : List Bnd) (p : Pfx) (n : Int) (hn : l.length ≤ 2000000) : Pure Tryz.prog 49 [VBn l, .agg (encP p), If .u32 n] (.tup [If .i64 ((findB l p n).getD 0), Bf (findB l p n).isSome]) := by
 have ko := of_c p n
 have ki := indexB_c l hn 131 [.cellp (encP p), .cellp [If .u32 n]] (isBn p n) (ofT_c p n)
 unfold findB
 refine Meets.intro Tryz.func49 rfl (Nat.le_of_ble_eq_true rfl) fun C hC => ?_
 simp only [List.map, argEnv, Nat.reduceAdd]
 refine nK ?_
 refine za ?_
 refine zu ?_
 refine ze ?_
 refine ze ?_
 refine zb ?_
 refine nK ?_
 refine za ?_
 refine zc ?_
 refine zm ?_
 refine zc ?_
 refine rpZ 12 rfl (op_call_pure (fun _ => ko) rfl (Opd.func _) (oS (oT rfl) (oS (oT rfl) Opds.nil))) ?_
 refine rpZ 13 rfl (op_call_pure (fun _ => ki) rfl (Opd.func _) (oS (oT rfl) (oS (oT rfl) Opds.nil))) ?_
 refine zd ?_
 refine zb ?_
 refine nK ?_
 refine za ?_
 refine zc ?_
 refine zbq ?_
 refine zb ?_
 refine nK ?_
 rcases find_idx (isBn p n) l with ⟨h1, h2⟩ | ⟨j, hj, h1, h2⟩
 ·rw [h2]
  refine nK ?_
  refine n_cond _ rfl (fun hb => ?_) (fun hb => ?_)
  ·refine nK ?_
   refine za ?_
   refine ze ?_
   refine ze ?_
   refine zb ?_
   refine nK ?_
   exact wO hC
  exfalso; simp at hb; omega
 have hr1 := row_at' encBn l j hj
 rw [h2, h1]
 generalize l[j] = b at *
 refine nK ?_
 refine n_cond _ rfl (fun hb => ?_) (fun hb => ?_)
 ·exfalso; simp at hb; omega
 refine nK ?_
 refine za ?_
 refine zc ?_
 refine zc ?_
 refine rpZ 18 rfl (op_idx_fz j rfl (oT rfl) (oT rfl) (by intro _; exact ⟨rfl, hr1⟩)) ?_
 refine zbf ?_
 refine zt ?_
 refine zd ?_
 refine ze ?_
 refine zb ?_
 refine nK ?_
 exact wO hC
theorem deleteB_m (l : List Bnd) (hn : l.length ≤ 2000000) (gf : Nat) [FnB Tryz.prog gf] (caps : List FV) (p : Bnd → Bool) (hp : ∀ x, Pure Tryz.prog gf ([.agg (encBn x)] ++ caps) (Bf (p x))) : Meets Tryz.prog 66 [.sl 0 4 0 l.length, .fz (.clo gf caps)] 1 [(0, OBn l)] (.sl 0 4 0 (keepL p l).length) [(0, OBn (keepL p l))] 1 := by
 have hix := indexB_c l hn gf caps p hp
 refine Meets.intro Tryz.func66 rfl (Nat.le_of_ble_eq_true rfl) fun C hC => ?_
 simp only [List.map, argEnv, Nat.reduceAdd]
 refine nK ?_
 refine za ?_
 refine ze ?_
 refine zb ?_
 refine nK ?_
 refine za ?_
 refine zc ?_
 refine zc ?_
 refine rlZ 10 rfl (op_call_lend [0] (fun _ => hix) rfl (Opd.func _) (oS (oT rfl) (oS (oT rfl) Opds.nil)) (by exact .cons _ _ _ _ tW (.cons _ _ _ _ tW .nil)) rfl rfl) ?_
 refine zd ?_
 refine zb ?_
 refine nK ?_
 refine za ?_
 refine zc ?_
 refine zba ?_
 refine zb ?_
 refine nK ?_
 rcases idxAt_spec p l 0 with ⟨h1, h2⟩ | ⟨j, hj, h1, h2, h3⟩
 ·rw [h1, h2]
  refine nK ?_
  refine n_cond _ rfl (fun hb => ?_) (fun hb => ?_)
  ·refine nK ?_
   refine za ?_
   refine zc ?_
   refine zd ?_
   refine zb ?_
   refine nK ?_
   refine Next.weakS [4] [] (by rfl) (keepsN hC _ rfl) (G' := [(4, .sl 0 4 0 l.length)]) (H' := [(0, OBn l)]) wG wHE4a rfl ?_
   exact n_out1 rfl (by rfl) rfl rfl
  simp at hb
 rw [h1, Nat.zero_add]
 refine nK ?_
 refine n_cond _ rfl (fun hb => ?_) (fun hb => ?_)
 ·simp at hb
 have hst := keep_take p l j hj
 rw [h2, cond_true, List.append_nil, h3] at hst
 refine nK ?_
 refine za ?_
 refine zc ?_
 refine zj ?_
 refine zd ?_
 refine zb ?_
 refine nK ?_
 refine n_loop (ι := Nat × List Bnd) (fun g => ([(0, .sl 0 4 0 l.length), (1, .fz (.clo gf caps)), (5, IV .i64 g.2.length), (6, IV .i64 g.1)], [(0, OBn (g.2 ++ l.drop g.2.length))], 1)) (fun g => j < g.1 ∧ g.1 ≤ l.length ∧ g.2 = keepL p (l.take g.1)) (fun g => l.length - g.1) (j + 1, l.take j) ⟨by dsimp only; omega, by dsimp only; omega, hst.symm⟩ ?_ ?_
 ·have e1 : (l.take j).length = j := by simp; omega
  simp only [e1, List.take_append_drop]
  refine Next.weakS [0] [] (by rfl) (wK hC) wG wHE4a rfl (rel_intro)
 intro ⟨i, c⟩ ⟨hi1, hi2, hcd⟩ K hK
 dsimp only at hi1 hi2 hcd ⊢
 have hcl := keep_len_lt p l j hj h2 i hi1 hi2
 rw [← hcd] at hcl
 have hkl := kept_len c l (by omega)
 refine nK ?_
 refine za ?_
 refine zc ?_
 refine zc ?_
 refine zbl ?_
 refine zn ?_
 refine zb ?_
 refine nK ?_
 refine n_cond _ rfl (fun hb => ?_) (fun hb => ?_)
 ·have hlt : i < l.length := by simp at hb; omega
  have hst2 := keep_take p l i hlt
  rw [← hcd] at hst2
  have hK3 := fun c' h => hK (i + 1, c') ⟨by dsimp only; omega, by dsimp only; omega, h⟩ (by dsimp only; omega)
  have g1 := kept_row encBn c l i (by omega) hlt
  have g3 := kept_row encBn c l c.length (Nat.le_refl _) (by omega)
  have hset := set_kept c l l[i] (by omega)
  generalize l[i] = x at *
  refine nK ?_
  refine za ?_
  refine zc ?_
  refine zc ?_
  refine rpZ 24 rfl (op_idx_sl0 _ rfl (oT rfl) (oT rfl) tD) ?_
  refine zm ?_
  refine zo ?_
  refine zg ?_
  refine zb ?_
  refine nK ?_
  refine za ?_
  refine zc ?_
  refine zm ?_
  refine rpZ 28 rfl (op_call_pureC (fun _ => hp x) rfl (oT rfl) (oS (oT rfl) Opds.nil)) ?_
  refine zbj ?_
  refine zb ?_
  refine nK ?_
  refine n_cond _ rfl (fun hb => ?_) (fun hb => ?_)
  ·have hne : p x = false := by simpa using hb
   rw [hne, cond_false] at hst2
   have hK4 := hK3 (c ++ [x]) hst2.symm
   have e4 : (c ++ [x]).length = c.length + 1 := by simp
   rw [← hset, e4] at hK4
   refine nK ?_
   refine za ?_
   refine zc ?_
   refine zc ?_
   refine zm ?_
   refine rpZ 33 rfl (op_idx_sl0 c.length rfl (oT rfl) (oT rfl) (by intro _; constructor <;> omega)) ?_
   refine Run.eff (dd := none) rfl rfl (op_store_flat rfl (oT rfl) (oT rfl) tC rfl rfl g3 tS) ?_
   refine zb ?_
   refine nK ?_
   refine za ?_
   refine zc ?_
   refine zj ?_
   refine zd ?_
   refine zb ?_
   refine nK ?_
   refine za ?_
   refine zc ?_
   refine zj ?_
   refine zd ?_
   refine zb ?_
   refine nK ?_
   refine Next.weakS [0] [] (by rfl) (wK hC) wG wHE4a rfl (hK4)
  have hne : p x = true := by simpa using hb
  rw [hne, cond_true, List.append_nil] at hst2
  refine nK ?_
  refine za ?_
  refine zc ?_
  refine zj ?_
  refine zd ?_
  refine zb ?_
  refine nK ?_
  refine Next.weakS [0] [] (by rfl) (wK hC) wG wHE4a rfl ((hK3 c hst2.symm))
 have hie : i = l.length := by simp at hb; omega
 rw [hie, List.take_length] at hcd
 rw [← hcd]
 refine nK ?_
 refine za ?_
 refine zc ?_
 refine zc ?_
 refine rlZ 38 rfl (op_slice_view rfl (oT rfl) (Bnd.yes _ _ _ _ _ (oT rfl) tQ) (Bnd.no _) (by intro _; refine ⟨rfl, ?_⟩; rw [List.length_map, hkl]; omega)) ?_
 refine Run.eff (dd := none) rfl rfl (op_clear rfl (oT rfl) rfl rfl rfl rfl (by rw [List.length_map, hkl] <;> omega)) ?_
 refine zb ?_
 refine nK ?_
 refine za ?_
 refine zc ?_
 refine zc ?_
 refine rlZ 41 rfl (op_slice_view rfl (oT rfl) (Bnd.no _) (Bnd.yes _ _ _ _ _ (oT rfl) tQ) (by intro _; refine ⟨rfl, ?_⟩; simp; try omega)) ?_
 refine zd ?_
 refine zb ?_
 refine nK ?_
 refine Next.trim 0 c.length rfl ?_
 refine Next.weakS [4] [] (by rfl) (keepsN hC _ rfl) (G' := [(4, .sl 0 4 0 c.length)]) (H' := [(0, OBn c)]) wG (by exact ⟨ent_same rfl rfl (flEq rfl (by simp)) trivial, trivial⟩) rfl ?_
 exact n_out1 rfl (by rfl) rfl rfl
theorem unbind_c (l : List Bnd) (p : Pfx) (n : Int) (hn : l.length ≤ 2000000) : Pure Tryz.prog 70 [VBn l, .agg (encP p), If .u32 n] (.tup [VBn (unbL l p n), Bf (decide (((unbL l p n).length : Int) < (l.length : Int)))]) := by
 have ko := of_c p n
 have kc := cloneB_f l hn
 have kd := deleteB_m l hn 131 [.cellp (encP p), .cellp [If .u32 n]] (isBn p n) (ofT_c p n)
 have hl := keep_len (isBn p n) l
 have e : unbL l p n = keepL (isBn p n) l := rfl
 rw [e]
 generalize keepL (isBn p n) l = c at *
 refine Meets.intro Tryz.func70 rfl (Nat.le_of_ble_eq_true rfl) fun C hC => ?_
 simp only [List.map, argEnv, Nat.reduceAdd]
 refine nK ?_
 refine za ?_
 refine zu ?_
 refine ze ?_
 refine ze ?_
 refine zb ?_
 refine nK ?_
 refine s_draw mixed ?_
 refine zc ?_
 refine Run.effW (dd := some 10) rfl rfl (op_call_fresh (fun _ => kc) rfl (Opd.func _) (oS (oT rfl) Opds.nil)) (by first | exact ext_call | exact tE) ?_
 refine zm ?_
 refine zc ?_
 refine rpZ 13 rfl (op_call_pure (fun _ => ko) rfl (Opd.func _) (oS (oT rfl) (oS (oT rfl) Opds.nil))) ?_
 refine Run.effW (dd := some 14) rfl rfl (op_call (n := 1) (n' := 1) [1] (fun _ => kd) rfl (Opd.func _) (oS (oT rfl) (oS (oT rfl) Opds.nil)) rfl rfl (Lent.of rfl rfl wHE4c rfl) rfl rfl rfl rfl rfl) (by first | exact ext_call | exact tE) ?_
 refine zd ?_
 refine zq ?_
 refine nK ?_
 refine za ?_
 refine zc ?_
 refine zc ?_
 refine zbl ?_
 refine zc ?_
 refine zk ?_
 refine zn ?_
 refine zd ?_
 refine zd ?_
 refine zb ?_
 refine nK ?_
 refine Next.weakS [] [6] (by rfl) (keeps0 hC _) (G' := [(6, .fz (VBn c)), (7, BV (decide ((c.length : Int) < (l.length : Int))))]) (H' := []) wF trivial rfl ?_
 exact wO hC
theorem lgreater_c (a b : Bnd) : Pure Tryz.prog 107 [.agg (encBn a), .agg (encBn b)] (Bf (grB a b)) := by
 have k := pcmp_c a.px b.px
 unfold grB
 generalize cmpP a.px b.px = c at *
 refine Meets.intro Tryz.func107 rfl (Nat.le_of_ble_eq_true rfl) fun C hC => ?_
 simp only [List.map, argEnv, Nat.reduceAdd]
 refine nK ?_
 refine za ?_
 refine zu ?_
 refine zu ?_
 refine ze ?_
 refine zb ?_
 refine nK ?_
 refine za ?_
 refine zf ?_
 refine zbc ?_
 refine zf ?_
 refine zbc ?_
 refine rpZ 10 rfl (op_call_pure (fun _ => k) rfl (Opd.func _) (oS (oT rfl) (oS (oT rfl) Opds.nil))) ?_
 refine zd ?_
 refine zb ?_
 refine nK ?_
 refine za ?_
 refine zc ?_
 refine zbu ?_
 refine zc ?_
 refine zl ?_
 refine zbw ?_
 refine zce ?_
 refine zp ?_
 refine zs ?_
 refine zp ?_
 refine zs ?_
 refine zcj ?_
 refine zco ?_
 refine zbd ?_
 refine zd ?_
 refine zb ?_
 refine nK ?_
 exact wO hC
theorem bindT_c (b x : Bnd) : Pure Tryz.prog 106 [.agg (encBn x), .cellp (encBn b)] (Bf (grB x b)) := by
 have k := lgreater_c x b
 refine Meets.intro Tryz.func106 rfl (Nat.le_of_ble_eq_true rfl) fun C hC => ?_
 simp only [List.map, argEnv, Nat.reduceAdd]
 refine nK ?_
 refine za ?_
 refine zu ?_
 refine ze ?_
 refine zb ?_
 refine nK ?_
 refine za ?_
 refine zm ?_
 refine zv ?_
 refine rpZ 6 rfl (op_call_pure (fun _ => k) rfl (Opd.func _) (oS (oT rfl) (oS (oT rfl) Opds.nil))) ?_
 refine zd ?_
 refine zb ?_
 refine nK ?_
 exact wO hC
def zBn : Bnd := ⟨⟨0, 0⟩, 0, 0⟩
instance : FnOv Tryz.prog 138 30   := ⟨_, 4, Tryz.func138, by decide +kernel, rfl, by kernel_rfl, by kernel_rfl⟩
theorem insertB_c (l : List Bnd) (x : Bnd) (i : Nat) (hn : l.length ≤ 2000000) (hi : i ≤ l.length) : Meets Tryz.prog 108 [.sl 0 4 0 l.length, IV .i64 i, .sl 1 4 0 1] 2 [(0, OBn l), (1, OBn [x])] (.sl 2 4 0 (l.length + 1)) [(2, OBn (insL l i x))] 3 := by
 have hil := insL_len l i x hi
 have e0 : ∀ xs ys : List Bnd, List.map encBn (xs ++ ys) = xs.map encBn ++ ys.map encBn := fun xs ys => List.map_append
 refine Meets.intro Tryz.func108 rfl (Nat.le_of_ble_eq_true rfl) fun C hC => ?_
 simp only [List.map, argEnv, Nat.reduceAdd]
 by_cases hie : i = l.length
 ·refine nK ?_
  refine za ?_
  refine ze ?_
  refine zb ?_
  refine nK ?_
  refine za ?_
  refine zc ?_
  refine zc ?_
  refine rlZ 12 rfl (op_slice_end (l := i) (h := l.length) rfl (oT rfl) (Bnd.yes _ _ _ _ _ (oT rfl) tQ) (Bnd.no _) (by intro _; refine ⟨rfl, ?_⟩; rw [List.length_map]; omega)) ?_
  refine zb ?_
  refine nK ?_
  refine za ?_
  refine zc ?_
  refine zbl ?_
  refine zd ?_
  refine zb ?_
  refine nK ?_
  refine za ?_
  refine zc ?_
  refine zba ?_
  refine zb ?_
  refine nK ?_
  refine n_cond _ rfl (fun hb => ?_) (fun hb => ?_)
  ·simp at hb
  refine nK ?_
  refine za ?_
  refine zc ?_
  refine zbl ?_
  refine zd ?_
  refine zb ?_
  refine nK ?_
  refine za ?_
  refine zc ?_
  refine zc ?_
  refine zbx ?_
  refine zb ?_
  refine nK ?_
  refine n_cond _ rfl (fun hb => ?_) (fun hb => ?_)
  ·have e4 : insL l i x = l ++ [x] := by rw [hie]; simp [insL]
   refine nK ?_
   refine za ?_
   refine zc ?_
   refine zc ?_
   refine zdd ?_
   refine zd ?_
   refine zb ?_
   refine nK ?_
   refine Next.weakS [0, 2, 6] [] (by rfl) (keepsN hC _ rfl) (G' := [(6, .sl 2 4 0 (l.length + 1))]) (H' := [(2, OBn (insL l i x))]) (by exact ⟨⟨_, rfl, .inl ⟨rfl, rfl⟩⟩, trivial⟩) (by exact ⟨ent_same rfl rfl (by rw [e4, e0]; rfl) trivial, trivial⟩) rfl ?_
   exact n_out1 rfl (by rfl) rfl rfl
  exfalso; simp at hb; omega
 refine nK ?_
 refine za ?_
 refine ze ?_
 refine zb ?_
 refine nK ?_
 refine za ?_
 refine zc ?_
 refine zc ?_
 refine rlZ 12 rfl (op_slice_view (l := i) (h := l.length) rfl (oT rfl) (Bnd.yes _ _ _ _ _ (oT rfl) tQ) (Bnd.no _) (by intro _; refine ⟨rfl, ?_⟩; rw [List.length_map]; omega)) ?_
 refine zb ?_
 refine nK ?_
 refine za ?_
 refine zc ?_
 refine zbl ?_
 refine zd ?_
 refine zb ?_
 refine nK ?_
 refine za ?_
 refine zc ?_
 refine zba ?_
 refine zb ?_
 refine nK ?_
 refine n_cond _ rfl (fun hb => ?_) (fun hb => ?_)
 ·simp at hb
 refine nK ?_
 refine za ?_
 refine zc ?_
 refine zbl ?_
 refine zd ?_
 refine zb ?_
 refine nK ?_
 refine za ?_
 refine zc ?_
 refine zc ?_
 refine zbx ?_
 refine zb ?_
 refine nK ?_
 refine n_cond _ rfl (fun hb => ?_) (fun hb => ?_)
 ·exfalso; simp at hb; omega
 refine Next.capE 0 rfl rfl rfl (Nat.zero_le _) fun cap hc1 hc2 hc3 => ?_
 unfold maxLen at hc3
 refine nK ?_
 refine za ?_
 refine zc ?_
 refine zc ?_
 refine zbm ?_
 refine zc ?_
 refine rpZ 30 rfl (op_cap rfl (oT rfl)) ?_
 refine zbz ?_
 refine zb ?_
 refine nK ?_
 refine n_cond _ rfl (fun hb => ?_) (fun hb => ?_)
 ·have hc4 : cap < l.length + 1 := by simp at hb; omega
  have hlen2 : ((l.map encBn).take i ++ List.replicate (l.length + 1 - i) (encBn zBn)).length = l.length + 1 := by simp; omega
  refine nK ?_
  refine za ?_
  refine zc ?_
  refine zc ?_
  refine rpZ 34 rfl (op_slice_room (h := i) rfl (oT rfl) (Bnd.yes _ _ _ _ _ (oT rfl) tQ) (by intro _; omega)) ?_
  refine zc ?_
  refine zc ?_
  refine zbm ?_
  refine zc ?_
  refine zdg ?_
  refine Run.eff (dd := some 40) rfl rfl (op_append_zg (k := l.length + 1 - i) (zs := encBn zBn) rfl (oT rfl) (opdI (oT rfl) (by omega)) rfl rfl rfl rfl rfl (by rw [List.length_map]; omega) (by omega) (by omega) (by omega) (by omega)) ?_
  refine zd ?_
  refine zb ?_
  refine nK ?_
  have hz : ∀ k : Nat, (some (Ob.flat 4 ((l.map encBn).take i ++ List.replicate k [If .u32 0, If .i64 0, If .u32 0, If .i64 0]))) = some (.flat 4 ((l.map encBn).take i ++ List.replicate k (encBn zBn))) := fun _ => rfl
  refine nK ?_
  refine za ?_
  refine zc ?_
  refine zc ?_
  refine rlZ 43 rfl (op_slice_view (l := i) (h := i + (l.length + 1 - i)) rfl (oT rfl) (Bnd.yes _ _ _ _ _ (oT rfl) tQ) (Bnd.no _) (by intro _; refine ⟨rfl, ?_⟩; rw [hlen2]; omega)) ?_
  refine zc ?_
  refine Run.eff (dd := some 45) rfl rfl (op_copy (n := 1) (rs := [x].map encBn) rfl (oT rfl) (oT rfl) rfl rfl (by show min _ _ = _; omega) rfl rfl (by rw [hlen2]; omega)) ?_
  refine zb ?_
  refine nK ?_
  have hlen3 : (((l.map encBn).take i ++ List.replicate (l.length + 1 - i) (encBn zBn)).take (0 + i) ++ [x].map encBn ++ ((l.map encBn).take i ++ List.replicate (l.length + 1 - i) (encBn zBn)).drop (0 + i + 1)).length = l.length + 1 := by simp; omega
  refine nK ?_
  refine s_draw mixed ?_
  refine zc ?_
  refine zc ?_
  refine zc ?_
  refine zbm ?_
  refine rlZ 50 rfl (op_slice_view (l := i + 1) (h := i + (l.length + 1 - i)) rfl (oT rfl) (Bnd.yes _ _ _ _ _ (oT rfl) tQ) (Bnd.no _) (by intro _; refine ⟨rfl, ?_⟩; rw [hlen3]; omega)) ?_
  refine zc ?_
  refine zc ?_
  refine rlZ 53 rfl (op_slice_view (l := i) (h := l.length) rfl (Opd.wc _ _ _ (oT rfl)) (Bnd.yes _ _ _ _ _ (oT rfl) tQ) (Bnd.no _) (by intro _; refine ⟨rfl, ?_⟩; rw [List.length_map]; omega)) ?_
  refine Run.effW (dd := some 54) rfl rfl (op_copy (n := l.length - i) (rs := (l.map encBn).drop i) rfl (oT rfl) (oT rfl) rfl rfl (by show min _ _ = _; omega) (by rw [Nat.zero_add, List.take_of_length_le (by simp)]) (by simp) (by rw [hlen3]; omega)) (by first | exact ext_call | exact tE) ?_
  refine zq ?_
  refine nK ?_
  have hgr := ins_grow (l.map encBn) i (encBn x) (encBn zBn) (by rw [List.length_map]; omega)
  rw [List.length_map, ← insL_map] at hgr
  refine nK ?_
  refine za ?_
  refine zc ?_
  refine zd ?_
  refine zb ?_
  refine nK ?_
  refine Next.weakS [0, 2, 6] [] (by rfl) (keepsN hC _ rfl) (G' := [(6, .sl 2 4 0 (l.length + 1))]) (H' := [(2, OBn (insL l i x))]) (by exact ⟨⟨_, rfl, .inl ⟨slEq rfl (by omega), rfl⟩⟩, trivial⟩) (by exact ⟨ent_same rfl rfl (by rw [← hgr]; simp only [Nat.zero_add]; rfl) trivial, trivial⟩) rfl ?_
  exact n_out1 rfl (by rfl) rfl rfl
 have hc4 : l.length + 1 ≤ cap := by simp at hb; omega
 refine nK ?_
 refine za ?_
 refine zc ?_
 refine zc ?_
 refine zc ?_
 refine zbm ?_
 refine rpZ 60 rfl (op_slice_room (h := l.length + 1) rfl (oT rfl) (Bnd.yes _ _ _ _ _ (oT rfl) (by intro _; simp)) (by intro _; omega)) ?_
 refine zd ?_
 refine zb ?_
 refine nK ?_
 refine nK ?_
 refine za ?_
 refine zc ?_
 refine zc ?_
 refine zc ?_
 refine zc ?_
 refine zbm ?_
 refine rpZ 66 rfl (op_slice_fromR (l := i + 1) rfl (oT rfl) (Bnd.yes _ _ _ _ _ (oT rfl) tQ) (by intro _; omega)) ?_
 refine rlZ 67 rfl (op_overlaps rfl (oT rfl) (oT rfl) rfl rfl rfl (by rw [List.length_map]; omega) rfl) ?_
 refine zbj ?_
 refine zb ?_
 refine nK ?_
 refine n_cond _ rfl (fun hb => ?_) (fun hb => ?_)
 ·refine nK ?_
  refine s_draw mixed ?_
  refine zc ?_
  refine zc ?_
  refine zc ?_
  refine zbm ?_
  refine rpZ 73 rfl (op_slice_fromR (l := i + 1) rfl (oT rfl) (Bnd.yes _ _ _ _ _ (oT rfl) tQ) (by intro _; omega)) ?_
  refine zc ?_
  refine zc ?_
  refine rpZ 76 rfl (op_slice_fromR (l := i) rfl (oT rfl) (Bnd.yes _ _ _ _ _ (oT rfl) tQ) (by intro _; omega)) ?_
  refine Run.effW (dd := some 77) rfl rfl (op_copy (n := l.length - i) (rs := (l.map encBn).drop i) rfl (oT rfl) (oT rfl) rfl rfl (by show min _ _ = _; omega) (by rw [Nat.zero_add, List.take_of_length_le (by simp)]) (by simp) (by rw [List.length_map]; omega)) (by first | exact ext_call | exact tE) ?_
  refine zq ?_
  refine nK ?_
  have hl5 : ((l.map encBn).take (0 + (i + 1)) ++ (l.map encBn).drop i ++ (l.map encBn).drop (0 + (i + 1) + (l.length - i))).length = l.length + 1 := by simp; omega
  have hgr := ins_room (l.map encBn) i (encBn x) (by rw [List.length_map]; omega)
  rw [List.length_map, ← insL_map] at hgr
  refine nK ?_
  refine za ?_
  refine zc ?_
  refine zc ?_
  refine rlZ 80 rfl (op_slice_view (l := i) (h := l.length + 1) rfl (Opd.wc _ _ _ (oT rfl)) (Bnd.yes _ _ _ _ _ (oT rfl) tQ) (Bnd.no _) (by intro _; refine ⟨rfl, ?_⟩; rw [hl5]; omega)) ?_
  refine zc ?_
  refine Run.eff (dd := some 82) rfl rfl (op_copy (n := 1) (rs := [x].map encBn) rfl (oT rfl) (oT rfl) rfl rfl (by show min _ _ = _; omega) rfl rfl (by rw [hl5]; omega)) ?_
  refine zb ?_
  refine nK ?_
  refine za ?_
  refine zc ?_
  refine zd ?_
  refine zb ?_
  refine nK ?_
  refine Next.unwc 6 rfl ?_
  refine Next.retag 6 rfl rfl ?_
  refine Next.weakS [0, 2, 6] [] (by rfl) (keepsN hC _ rfl) (G' := [(6, .sl 2 4 0 (l.length + 1))]) (H' := [(2, OBn (insL l i x))]) (by exact ⟨⟨_, rfl, .inl ⟨rfl, rfl⟩⟩, trivial⟩) (by exact ⟨ent_same rfl rfl (by rw [← hgr]; simp only [Nat.zero_add]; rfl) trivial, trivial⟩) rfl ?_
  exact n_out1 rfl (by rfl) rfl rfl
 exfalso; simp at hb
theorem bind_c (l : List Bnd) (b : Bnd) (hn : l.length ≤ 1000000) : Pure Tryz.prog 69 [VBn l, .agg (encBn b)] (VBn (bindL l b)) := by
 have ko := of_c b.px b.pe
 have kc := cloneB_f l (by omega)
 have kd := deleteB_m l (by omega) 131 [.cellp (encP b.px), .cellp [If .u32 b.pe]] (isBn b.px b.pe) (ofT_c b.px b.pe)
 have hl := keep_len (isBn b.px b.pe) l
 have e : bindL l b = insB b (keepL (isBn b.px b.pe) l) := rfl
 rw [e, ← insB_plc]
 generalize keepL (isBn b.px b.pe) l = c at *
 have ki := indexB_c c (by omega) 106 [.cellp (encBn b)] (fun x => grB x b) (bindT_c b)
 have hple := plc_le (fun x => grB x b) c
 have kn := insertB_c c b (plc (fun x => grB x b) c) (by omega) hple
 have hil := insL_len c (plc (fun x => grB x b) c) b hple
 have hpd : ((plc (fun x => grB x b) c : Nat) : Int) = if idxAt (fun x => grB x b) 0 c < 0 then (c.length : Int) else idxAt (fun x => grB x b) 0 c := by
  unfold plc
  split
  ·rfl
  omega
 rw [← hil] at kn
 generalize plc (fun x => grB x b) c = k at *
 generalize insL c k b = d at *
 generalize idxAt (fun x => grB x b) 0 c = z at *
 refine Meets.intro Tryz.func69 rfl (Nat.le_of_ble_eq_true rfl) fun C hC => ?_
 simp only [List.map, argEnv, Nat.reduceAdd]
 refine nK ?_
 refine za ?_
 refine zu ?_
 refine ze ?_
 refine zb ?_
 refine nK ?_
 refine s_draw mixed ?_
 refine zc ?_
 refine Run.effW (dd := some 8) rfl rfl (op_call_fresh (fun _ => kc) rfl (Opd.func _) (oS (oT rfl) Opds.nil)) (by first | exact ext_call | exact tE) ?_
 refine zf ?_
 refine zbc ?_
 refine zf ?_
 refine zh ?_
 refine rpZ 13 rfl (op_call_pure (fun _ => ko) rfl (Opd.func _) (oS (oT rfl) (oS (oT rfl) Opds.nil))) ?_
 refine Run.effW (dd := some 14) rfl rfl (op_call (n := 1) (n' := 1) [1] (fun _ => kd) rfl (Opd.func _) (oS (oT rfl) (oS (oT rfl) Opds.nil)) rfl rfl (Lent.of rfl rfl wHE4c rfl) rfl rfl rfl rfl rfl) (by first | exact ext_call | exact tE) ?_
 refine zd ?_
 refine zq ?_
 refine nK ?_
 refine Next.weakS [5] [3] (by rfl) (keeps0 hC _) (G' := [(3, .fz (.cellp (encBn b))), (5, .sl 0 4 0 c.length)]) (H' := [(0, OBn c)]) wF wHE4a rfl ?_
 refine nK ?_
 refine za ?_
 refine zc ?_
 refine rpZ 16 rfl (op_makeFuncF (fs := [.cellp (encBn b)]) rfl (oS (oT rfl) Opds.nil)) ?_
 refine rlZ 17 rfl (op_call_lend [0] (fun _ => ki) rfl (Opd.func _) (oS (oT rfl) (oS (oT rfl) Opds.nil)) (by exact .cons _ _ _ _ tW (.cons _ _ _ _ tW .nil)) rfl rfl) ?_
 refine zd ?_
 refine zb ?_
 refine nK ?_
 refine za ?_
 refine zc ?_
 refine zbq ?_
 refine zb ?_
 refine nK ?_
 refine nK ?_
 refine n_cond _ rfl (fun hb => ?_) (fun hb => ?_)
 ·rw [if_pos (by simpa using hb)] at hpd
  rw [hpd] at kn
  refine nK ?_
  refine za ?_
  refine zc ?_
  refine zbl ?_
  refine zd ?_
  refine zb ?_
  refine nK ?_
  refine za ?_
  refine zc ?_
  refine zc ?_
  refine zv ?_
  refine zcz ?_
  refine Run.eff (dd := some 26) rfl rfl (op_call (n := 2) (n' := 3) [0, 1] (fun _ => kn) rfl (Opd.func _) (oS (oT rfl) (oS (oT rfl) (oS (oT rfl) Opds.nil))) rfl rfl (Lent.of rfl rfl wHE4c rfl) rfl rfl rfl rfl rfl) ?_
  refine zd ?_
  refine zb ?_
  refine nK ?_
  refine Next.weakS [] [4] (by rfl) (keeps0 hC _) (G' := [(4, .fz (VBn d))]) (H' := []) wF trivial rfl ?_
  exact wO hC
 rw [if_neg (by simpa using hb)] at hpd
 rw [hpd] at kn
 refine nK ?_
 refine za ?_
 refine zc ?_
 refine zc ?_
 refine zv ?_
 refine zcz ?_
 refine Run.eff (dd := some 26) rfl rfl (op_call (n := 2) (n' := 3) [0, 1] (fun _ => kn) rfl (Opd.func _) (oS (oT rfl) (oS (oT rfl) (oS (oT rfl) Opds.nil))) rfl rfl (Lent.of rfl rfl wHE4c rfl) rfl rfl rfl rfl rfl) ?_
 refine zd ?_
 refine zb ?_
 refine nK ?_
 refine Next.weakS [] [4] (by rfl) (keeps0 hC _) (G' := [(4, .fz (VBn d))]) (H' := []) wF trivial rfl ?_
 exact wO hC
open Go Go.RT Go.Proofs Go.Pl
set_option maxRecDepth 20000
set_option maxHeartbeats 2000000
theorem wHE5a {α : Prop} (h : α := by repeat (first | exact trivial | refine ⟨⟨_, rfl, .inl ⟨rfl, rfl⟩⟩, ?_⟩)) : α := h
theorem wHE5b {α : Prop} (h : α := by repeat (first | exact trivial | refine ⟨wS, ?_⟩ | refine ⟨ent_same rfl rfl (rfEq rfl tU) tL, ?_⟩ | refine ⟨ent_same rfl rfl (flEq rfl (by first | (simp; done) | (simp; omega) | (simp [encP, encW]; done) | simp [maxC, minC])) trivial, ?_⟩)) : α := h
def zW : Int := 0
theorem nanW_c (a : Int) : Pure Tryz.prog 136 [If .u32 a] (Bf false) := by
 rw [show (false) = decide (a ≠ a) by simp]
 refine Meets.intro Tryz.func136 rfl (Nat.le_of_ble_eq_true rfl) fun C hC => ?_
 simp only [List.map, argEnv, Nat.reduceAdd]
 refine nK ?_
 refine za ?_
 refine ze ?_
 refine zb ?_
 refine nK ?_
 refine za ?_
 refine zc ?_
 refine zc ?_
 refine zbk ?_
 refine zd ?_
 refine zb ?_
 refine nK ?_
 exact wO hC
theorem snan_c (a : Int) : Pure Tryz.prog 101 [If .u32 a] (Bf false) := by
 refine Meets.intro Tryz.func101 rfl (Nat.le_of_ble_eq_true rfl) fun C hC => ?_
 simp only [List.map, argEnv, Nat.reduceAdd]
 refine nK ?_
 refine za ?_
 refine ze ?_
 refine zb ?_
 refine nK ?_
 refine za ?_
 refine zc ?_
 refine zc ?_
 refine zbk ?_
 refine zd ?_
 refine zb ?_
 refine nK ?_
 refine Next.weakS [] [] (by rfl) (keeps0 hC _) (G' := [(2, BV false)]) (H' := []) ⟨⟨_, rfl, .inl ⟨by simp [renP], rfl⟩⟩, trivial⟩ trivial rfl ?_
 exact wO hC
theorem cless_c (a b : Int) : Pure Tryz.prog 100 [If .u32 a, If .u32 b] (Bf (decide (a < b))) := by
 refine Meets.intro Tryz.func100 rfl (Nat.le_of_ble_eq_true rfl) fun C hC => ?_
 simp only [List.map, argEnv, Nat.reduceAdd]
 refine nK ?_
 refine za ?_
 refine ze ?_
 refine zb ?_
 refine nK ?_
 refine za ?_
 refine zc ?_
 refine rpZ 6 rfl (op_call_pure (fun _ => nanW_c _) rfl (Opd.func _) (oS (oT rfl) Opds.nil)) ?_
 refine zc ?_
 refine zl ?_
 refine rgZ 9 rfl rfl tG (op_call_pure (fun _ => nanW_c _) rfl (Opd.func _) (oS (oO rfl tO) Opds.nil)) ?_
 refine zca ?_
 refine zy ?_
 refine zc ?_
 refine zl ?_
 refine zl ?_
 refine zcv ?_
 refine zbd ?_
 refine zd ?_
 refine zb ?_
 refine nK ?_
 exact wO hC
theorem bsearchW_c (l : List Int) (x : Int) (hn : l.length ≤ 2000000) : Pure Tryz.prog 62 [VW l, If .u32 x] (.tup [If .i64 (bsGo (fun e => decide (e < x)) l 0 l.length : Nat), Bf (hitAt (fun e => decide (e = x)) l (bsGo (fun e => decide (e < x)) l 0 l.length))]) := by
 refine Meets.intro Tryz.func62 rfl (Nat.le_of_ble_eq_true rfl) fun C hC => ?_
 simp only [List.map, argEnv, Nat.reduceAdd]
 refine nK ?_
 refine za ?_
 refine ze ?_
 refine ze ?_
 refine zb ?_
 refine nK ?_
 refine za ?_
 refine zc ?_
 refine zk ?_
 refine zd ?_
 refine zb ?_
 refine nK ?_
 refine za ?_
 refine zc ?_
 refine ze ?_
 refine zd ?_
 refine zb ?_
 refine nK ?_
 refine n_loop (ι := Nat × Nat) (fun g => ([(0, .fz (VW l)), (1, IV .u32 x), (6, IV .i64 l.length), (7, IV .i64 g.1), (8, IV .i64 g.2)], [], 0)) (fun g => g.1 ≤ g.2 ∧ g.2 ≤ l.length ∧ bsGo (fun e => decide (e < x)) l g.1 g.2 = bsGo (fun e => decide (e < x)) l 0 l.length) (fun g => g.2 - g.1) (0, l.length) ⟨Nat.zero_le _, Nat.le_refl _, rfl⟩ ?_ ?_
 ·refine Next.weak [] [] (by rfl) (keeps0 hC _) wHE5a wHE5b wN rel_intro
 intro ⟨i, j⟩ ⟨hi, hj, ho⟩ K hK
 dsimp only at hi hj ho ⊢
 refine nK ?_
 refine za ?_
 refine zc ?_
 refine zc ?_
 refine zn ?_
 refine zb ?_
 refine nK ?_
 refine n_cond _ rfl (fun hb => ?_) (fun hb => ?_)
 ·have hlt : i < j := by simp at hb; omega
  have hm : (i + j) / 2 < l.length := by omega
  have hr1 := row_at' encW l ((i + j) / 2) hm
  have hst := bsGo_step (fun e => decide (e < x)) l i j hlt hj
  rw [ho] at hst
  have hKl := fun h => hK (((i + j) / 2) + 1, j) ⟨by dsimp only; omega, by dsimp only; omega, h⟩ (by dsimp only; omega)
  have hKr := fun h => hK (i, (i + j) / 2) ⟨by dsimp only; omega, by dsimp only; omega, h⟩ (by dsimp only; omega)
  generalize l[(i + j) / 2] = e at *
  refine nK ?_
  refine za ?_
  refine zc ?_
  refine zc ?_
  refine zbm ?_
  refine zbh ?_
  refine rpZ 20 rfl (op_shr (n := 1) rfl (oT rfl) oC (by intro _; simp only [IntKind.bits]; omega)) ?_
  refine zbh ?_
  refine zd ?_
  refine zb ?_
  refine nK ?_
  refine za ?_
  refine zc ?_
  refine zc ?_
  refine rpZ 24 rfl (op_idx_fz ((i + j) / 2) rfl (oT rfl) (oT rfl) (by intro _; exact ⟨by omega, hr1⟩)) ?_
  refine zt ?_
  refine zc ?_
  refine rpZ 27 rfl (op_call_pure (fun _ => cless_c _ _) rfl (Opd.func _) (oS (oT rfl) (oS (oT rfl) Opds.nil))) ?_
  refine zb ?_
  refine nK ?_
  refine n_cond _ rfl (fun hb => ?_) (fun hb => ?_)
  ·simp only [hb, cond_true] at hst
   refine nK ?_
   refine za ?_
   refine zc ?_
   refine zj ?_
   refine zd ?_
   refine zb ?_
   refine nK ?_
   refine Next.weak [] [] (by rfl) (keeps0 hC _) wHE5a wHE5b wN (hKl hst.symm)
  simp only [hb, cond_false] at hst
  refine nK ?_
  refine za ?_
  refine zc ?_
  refine zd ?_
  refine zb ?_
  refine nK ?_
  refine Next.weak [] [] (by rfl) (keeps0 hC _) wHE5a wHE5b wN (hKr hst.symm)
 have hie : i = j := by simp at hb; omega
 rw [hie, bsGo_end] at ho
 rw [← ho]
 rw [hie] at hi ⊢
 obtain ⟨q, hq, hh⟩ := hitAt_eq l j (fun e => decide (e = x))
 rw [hh]
 have hr : j < l.length → (l.map encW)[j]? = some (encW q) := fun h => by rw [List.getElem?_map, hq h]; rfl
 refine nK ?_
 refine za ?_
 refine zc ?_
 refine zc ?_
 refine zc ?_
 refine zn ?_
 refine zc ?_
 refine zl ?_
 refine zl ?_
 refine rgZ 38 rfl rfl tG (op_idx_fz j rfl (oO rfl tO) (oO rfl tO) (by intro hg; exact ⟨rfl, hr (by simp at hg; omega)⟩)) ?_
 refine zbt ?_
 refine zl ?_
 refine zbp ?_
 refine zce ?_
 refine zl ?_
 refine zl ?_
 refine rgZ 45 rfl rfl tG (op_idx_fz j rfl (oO rfl tO) (oO rfl tO) (by intro hg; exact ⟨rfl, hr (by simp at hg; omega)⟩)) ?_
 refine zbt ?_
 refine rgZ 47 rfl rfl tG (op_call_pure (fun _ => snan_c _) rfl (Opd.func _) (oS (oO rfl tO) Opds.nil)) ?_
 refine zce ?_
 refine zl ?_
 refine rgZ 50 rfl rfl tG (op_call_pure (fun _ => snan_c _) rfl (Opd.func _) (oS (oO rfl tO) Opds.nil)) ?_
 refine zco ?_
 refine zda ?_
 refine zy ?_
 refine zd ?_
 refine zd ?_
 refine zb ?_
 refine nK ?_
 refine Next.weakS [] [] (by rfl) (keeps0 hC _) (G' := [(4, IV .i64 j), (5, BV (decide ((j : Int) < (l.length : Int)) && decide (q = x)))]) (H' := []) ⟨⟨_, rfl, .inl ⟨rfl, rfl⟩⟩, ⟨_, rfl, .inl ⟨by simp [renP], rfl⟩⟩, trivial⟩ trivial rfl ?_
 exact wO hC
theorem deleteW_c (l : List Int) (k i j : Nat) (hn : l.length ≤ 2000000) (hij : i < j) (hj : j ≤ l.length) : Meets Tryz.prog 65 [.sl 0 1 0 l.length, IV .i64 i, IV .i64 j] 1 [(0, OW (l ++ List.replicate k zW))] (.sl 0 1 0 (l.length - (j - i))) [(0, OW ((l.take i ++ l.drop j) ++ List.replicate (k + (j - i)) zW))] 1 := by
 have hrl : (l ++ List.replicate k zW).length = l.length + k := by simp
 have hrows := del_rowsG zW l k i j (by omega) hj
 have e0 : ∀ xs ys : List Int, List.map encW (xs ++ ys) = xs.map encW ++ ys.map encW := fun xs ys => List.map_append
 have hcl : l.length - (j - i) = i + (l.length - j) := by omega
 refine Meets.intro Tryz.func65 rfl (Nat.le_of_ble_eq_true rfl) fun C hC => ?_
 simp only [List.map, argEnv, Nat.reduceAdd]
 refine nK ?_
 refine za ?_
 refine ze ?_
 refine zb ?_
 refine nK ?_
 refine za ?_
 refine zc ?_
 refine zc ?_
 refine zc ?_
 refine zc ?_
 refine zbl ?_
 refine rlZ 13 rfl (op_slice_any (l := i) (h := j) (mx := l.length) rfl (oT rfl) (Bnd.yes _ _ _ _ _ (oT rfl) tQ) (Bnd.yes _ _ _ _ _ (oT rfl) tQ) (Bnd.yes _ _ _ _ _ (oT rfl) tQ) (by intro _; refine ⟨rfl, ?_⟩; rw [List.length_map, hrl]; omega)) ?_
 refine zb ?_
 refine nK ?_
 refine nK ?_
 refine za ?_
 refine zc ?_
 refine zc ?_
 refine zbx ?_
 refine zb ?_
 refine nK ?_
 refine n_cond _ rfl (fun hb => ?_) (fun hb => ?_)
 ·simp at hb; omega
 have hxl : ((l ++ List.replicate k zW).take i ++ l.drop j ++ (l ++ List.replicate k zW).drop (i + (l.length - j))).length = l.length + k := by simp; omega
 by_cases hje : j = l.length
 ·refine nK ?_
  refine za ?_
  refine zc ?_
  refine zbl ?_
  refine zd ?_
  refine zb ?_
  refine nK ?_
  refine s_draw mixed ?_
  refine zc ?_
  refine zc ?_
  refine rlZ 22 rfl (op_slice_view rfl (oT rfl) (Bnd.no _) (Bnd.yes _ _ _ _ _ (oT rfl) tQ) (by intro _; refine ⟨rfl, ?_⟩; rw [List.length_map, hrl]; omega)) ?_
  refine zc ?_
  refine zc ?_
  refine rlZ 25 rfl (op_slice_end (l := j) (h := l.length) rfl (oT rfl) (Bnd.yes _ _ _ _ _ (oT rfl) tQ) (Bnd.no _) (by intro _; refine ⟨rfl, ?_⟩; rw [List.length_map, hrl]; omega)) ?_
  refine Run.effW (dd := some 26) rfl rfl (op_append_inF rfl (oT rfl) (oT rfl) rfl (by rw [List.length_map, hrl]; simp; omega) rfl) tE ?_
  refine zd ?_
  refine zq ?_
  refine nK ?_
  refine Next.weakS [0] [] (by rfl) (keepsN hC _ rfl) (G' := [(0, .sl 0 1 0 (i + (l.length - j))), (7, IV .i64 l.length)]) (H' := [(0, OW ((l ++ List.replicate k zW).take i ++ l.drop j ++ (l ++ List.replicate k zW).drop (i + (l.length - j))))]) (by exact ⟨⟨_, rfl, .inl ⟨slEq rfl (by simp; omega), rfl⟩⟩, ⟨_, rfl, .inl ⟨rfl, rfl⟩⟩, trivial⟩) (by exact ⟨ent_same rfl rfl (by refine congrArg (fun r => some (Ob.flat 1 r)) ?_; subst hje; simp) trivial, trivial⟩) rfl ?_
  refine nK ?_
  refine za ?_
  refine zc ?_
  refine zc ?_
  refine zbl ?_
  refine zc ?_
  refine rlZ 31 rfl (op_slice_view (l := i + (l.length - j)) (h := l.length) rfl (oT rfl) (Bnd.yes _ _ _ _ _ (oT rfl) tQ) (Bnd.yes _ _ _ _ _ (oT rfl) tQ) (by intro _; refine ⟨rfl, ?_⟩; rw [List.length_map, hxl]; omega)) ?_
  refine Run.eff (dd := none) rfl rfl (op_clear rfl (oT rfl) rfl rfl rfl rfl (by rw [List.length_map, hxl]; omega)) ?_
  refine zb ?_
  refine nK ?_
  refine za ?_
  refine zc ?_
  refine zd ?_
  refine zb ?_
  refine nK ?_
  refine Next.weakS [6] [] (by rfl) (keepsN hC _ rfl) (G' := [(6, .sl 0 1 0 (l.length - (j - i)))]) (H' := [(0, OW ((l.take i ++ l.drop j) ++ List.replicate (k + (j - i)) zW))]) (by exact ⟨⟨_, rfl, .inl ⟨slEq rfl (by omega), rfl⟩⟩, trivial⟩) (by exact ⟨ent_same rfl rfl (by refine congrArg (fun r => some (Ob.flat 1 r)) ?_; rw [← hrows]; simp [zW]; exact .inr rfl) trivial, trivial⟩) rfl ?_
  exact n_out1 rfl (by rfl) rfl rfl
 refine nK ?_
 refine za ?_
 refine zc ?_
 refine zbl ?_
 refine zd ?_
 refine zb ?_
 refine nK ?_
 refine s_draw mixed ?_
 refine zc ?_
 refine zc ?_
 refine rlZ 22 rfl (op_slice_view rfl (oT rfl) (Bnd.no _) (Bnd.yes _ _ _ _ _ (oT rfl) tQ) (by intro _; refine ⟨rfl, ?_⟩; rw [List.length_map, hrl]; omega)) ?_
 refine zc ?_
 refine zc ?_
 refine rlZ 25 rfl (op_slice_view (l := j) (h := l.length) rfl (oT rfl) (Bnd.yes _ _ _ _ _ (oT rfl) tQ) (Bnd.no _) (by intro _; refine ⟨rfl, ?_⟩; rw [List.length_map, hrl]; omega)) ?_
 refine Run.effW (dd := some 26) rfl rfl (op_append_in (rs := (l.drop j).map encW) rfl (oT rfl) (oT rfl) rfl rfl (by simp [List.drop_append, List.take_append]; try omega) (by simp) (by rw [List.length_map, hrl]; omega) rfl) tE ?_
 refine zd ?_
 refine zq ?_
 refine nK ?_
 refine Next.weakS [0] [] (by rfl) (keepsN hC _ rfl) (G' := [(0, .sl 0 1 0 (i + (l.length - j))), (7, IV .i64 l.length)]) (H' := [(0, OW ((l ++ List.replicate k zW).take i ++ l.drop j ++ (l ++ List.replicate k zW).drop (i + (l.length - j))))]) (by exact ⟨⟨_, rfl, .inl ⟨slEq rfl (by simp), rfl⟩⟩, ⟨_, rfl, .inl ⟨rfl, rfl⟩⟩, trivial⟩) (by exact ⟨ent_same rfl rfl (by refine congrArg (fun r => some (Ob.flat 1 r)) ?_; simp) trivial, trivial⟩) rfl ?_
 refine nK ?_
 refine za ?_
 refine zc ?_
 refine zc ?_
 refine zbl ?_
 refine zc ?_
 refine rlZ 31 rfl (op_slice_view (l := i + (l.length - j)) (h := l.length) rfl (oT rfl) (Bnd.yes _ _ _ _ _ (oT rfl) tQ) (Bnd.yes _ _ _ _ _ (oT rfl) tQ) (by intro _; refine ⟨rfl, ?_⟩; rw [List.length_map, hxl]; omega)) ?_
 refine Run.eff (dd := none) rfl rfl (op_clear rfl (oT rfl) rfl rfl rfl rfl (by rw [List.length_map, hxl]; omega)) ?_
 refine zb ?_
 refine nK ?_
 refine za ?_
 refine zc ?_
 refine zd ?_
 refine zb ?_
 refine nK ?_
 refine Next.weakS [6] [] (by rfl) (keepsN hC _ rfl) (G' := [(6, .sl 0 1 0 (l.length - (j - i)))]) (H' := [(0, OW ((l.take i ++ l.drop j) ++ List.replicate (k + (j - i)) zW))]) (by exact ⟨⟨_, rfl, .inl ⟨slEq rfl (by omega), rfl⟩⟩, trivial⟩) (by exact ⟨ent_same rfl rfl (by refine congrArg (fun r => some (Ob.flat 1 r)) ?_; rw [← hrows]; simp [zW]; exact .inr rfl) trivial, trivial⟩) rfl ?_
 exact n_out1 rfl (by rfl) rfl rfl
instance : FnOv Tryz.prog 102 31   := ⟨_, 4, Tryz.func102, by decide +kernel, rfl, by kernel_rfl, by kernel_rfl⟩
theorem insertW_c (l : List Int) (x : Int) (i : Nat) (hn : l.length ≤ 2000000) (hi : i ≤ l.length) : Meets Tryz.prog 63 [.sl 0 1 0 l.length, IV .i64 i, .sl 1 1 0 1] 2 [(0, OW l), (1, OW [x])] (.sl 2 1 0 (l.length + 1)) [(2, OW (insL l i x))] 3 := by
 have hil := insL_len l i x hi
 have e0 : ∀ xs ys : List Int, List.map encW (xs ++ ys) = xs.map encW ++ ys.map encW := fun xs ys => List.map_append
 refine Meets.intro Tryz.func63 rfl (Nat.le_of_ble_eq_true rfl) fun C hC => ?_
 simp only [List.map, argEnv, Nat.reduceAdd]
 by_cases hie : i = l.length
 ·refine nK ?_
  refine za ?_
  refine ze ?_
  refine zb ?_
  refine nK ?_
  refine za ?_
  refine zc ?_
  refine zc ?_
  refine rlZ 12 rfl (op_slice_end (l := i) (h := l.length) rfl (oT rfl) (Bnd.yes _ _ _ _ _ (oT rfl) tQ) (Bnd.no _) (by intro _; refine ⟨rfl, ?_⟩; rw [List.length_map]; omega)) ?_
  refine zb ?_
  refine nK ?_
  refine za ?_
  refine zc ?_
  refine zbl ?_
  refine zd ?_
  refine zb ?_
  refine nK ?_
  refine za ?_
  refine zc ?_
  refine zba ?_
  refine zb ?_
  refine nK ?_
  refine n_cond _ rfl (fun hb => ?_) (fun hb => ?_)
  ·simp at hb
  refine nK ?_
  refine za ?_
  refine zc ?_
  refine zbl ?_
  refine zd ?_
  refine zb ?_
  refine nK ?_
  refine za ?_
  refine zc ?_
  refine zc ?_
  refine zbx ?_
  refine zb ?_
  refine nK ?_
  refine n_cond _ rfl (fun hb => ?_) (fun hb => ?_)
  ·have e4 : insL l i x = l ++ [x] := by rw [hie]; simp [insL]
   refine nK ?_
   refine za ?_
   refine zc ?_
   refine zc ?_
   refine zdd ?_
   refine zd ?_
   refine zb ?_
   refine nK ?_
   refine Next.weakS [0, 2, 6] [] (by rfl) (keepsN hC _ rfl) (G' := [(6, .sl 2 1 0 (l.length + 1))]) (H' := [(2, OW (insL l i x))]) (by exact ⟨⟨_, rfl, .inl ⟨rfl, rfl⟩⟩, trivial⟩) (by exact ⟨ent_same rfl rfl (by rw [e4, e0]; rfl) trivial, trivial⟩) rfl ?_
   exact n_out1 rfl (by rfl) rfl rfl
  exfalso; simp at hb; omega
 refine nK ?_
 refine za ?_
 refine ze ?_
 refine zb ?_
 refine nK ?_
 refine za ?_
 refine zc ?_
 refine zc ?_
 refine rlZ 12 rfl (op_slice_view (l := i) (h := l.length) rfl (oT rfl) (Bnd.yes _ _ _ _ _ (oT rfl) tQ) (Bnd.no _) (by intro _; refine ⟨rfl, ?_⟩; rw [List.length_map]; omega)) ?_
 refine zb ?_
 refine nK ?_
 refine za ?_
 refine zc ?_
 refine zbl ?_
 refine zd ?_
 refine zb ?_
 refine nK ?_
 refine za ?_
 refine zc ?_
 refine zba ?_
 refine zb ?_
 refine nK ?_
 refine n_cond _ rfl (fun hb => ?_) (fun hb => ?_)
 ·simp at hb
 refine nK ?_
 refine za ?_
 refine zc ?_
 refine zbl ?_
 refine zd ?_
 refine zb ?_
 refine nK ?_
 refine za ?_
 refine zc ?_
 refine zc ?_
 refine zbx ?_
 refine zb ?_
 refine nK ?_
 refine n_cond _ rfl (fun hb => ?_) (fun hb => ?_)
 ·exfalso; simp at hb; omega
 refine Next.capE 0 rfl rfl rfl (Nat.zero_le _) fun cap hc1 hc2 hc3 => ?_
 unfold maxLen at hc3
 refine nK ?_
 refine za ?_
 refine zc ?_
 refine zc ?_
 refine zbm ?_
 refine zc ?_
 refine rpZ 30 rfl (op_cap rfl (oT rfl)) ?_
 refine zbz ?_
 refine zb ?_
 refine nK ?_
 refine n_cond _ rfl (fun hb => ?_) (fun hb => ?_)
 ·have hc4 : cap < l.length + 1 := by simp at hb; omega
  have hlen2 : ((l.map encW).take i ++ List.replicate (l.length + 1 - i) (encW zW)).length = l.length + 1 := by simp; omega
  refine nK ?_
  refine za ?_
  refine zc ?_
  refine zc ?_
  refine rpZ 34 rfl (op_slice_room (h := i) rfl (oT rfl) (Bnd.yes _ _ _ _ _ (oT rfl) tQ) (by intro _; omega)) ?_
  refine zc ?_
  refine zc ?_
  refine zbm ?_
  refine zc ?_
  refine zdg ?_
  refine Run.eff (dd := some 40) rfl rfl (op_append_zg (k := l.length + 1 - i) (zs := encW zW) rfl (oT rfl) (opdI (oT rfl) (by omega)) rfl rfl rfl rfl rfl (by rw [List.length_map]; omega) (by omega) (by omega) (by omega) (by omega)) ?_
  refine zd ?_
  refine zb ?_
  refine nK ?_
  have hz : ∀ k : Nat, (some (Ob.flat 1 ((l.map encW).take i ++ List.replicate k [If .u32 0]))) = some (.flat 1 ((l.map encW).take i ++ List.replicate k (encW zW))) := fun _ => rfl
  refine nK ?_
  refine za ?_
  refine zc ?_
  refine zc ?_
  refine rlZ 43 rfl (op_slice_view (l := i) (h := i + (l.length + 1 - i)) rfl (oT rfl) (Bnd.yes _ _ _ _ _ (oT rfl) tQ) (Bnd.no _) (by intro _; refine ⟨rfl, ?_⟩; rw [hlen2]; omega)) ?_
  refine zc ?_
  refine Run.eff (dd := some 45) rfl rfl (op_copy (n := 1) (rs := [x].map encW) rfl (oT rfl) (oT rfl) rfl rfl (by show min _ _ = _; omega) rfl rfl (by rw [hlen2]; omega)) ?_
  refine zb ?_
  refine nK ?_
  have hlen3 : (((l.map encW).take i ++ List.replicate (l.length + 1 - i) (encW zW)).take (0 + i) ++ [x].map encW ++ ((l.map encW).take i ++ List.replicate (l.length + 1 - i) (encW zW)).drop (0 + i + 1)).length = l.length + 1 := by simp; omega
  refine nK ?_
  refine s_draw mixed ?_
  refine zc ?_
  refine zc ?_
  refine zc ?_
  refine zbm ?_
  refine rlZ 50 rfl (op_slice_view (l := i + 1) (h := i + (l.length + 1 - i)) rfl (oT rfl) (Bnd.yes _ _ _ _ _ (oT rfl) tQ) (Bnd.no _) (by intro _; refine ⟨rfl, ?_⟩; rw [hlen3]; omega)) ?_
  refine zc ?_
  refine zc ?_
  refine rlZ 53 rfl (op_slice_view (l := i) (h := l.length) rfl (Opd.wc _ _ _ (oT rfl)) (Bnd.yes _ _ _ _ _ (oT rfl) tQ) (Bnd.no _) (by intro _; refine ⟨rfl, ?_⟩; rw [List.length_map]; omega)) ?_
  refine Run.effW (dd := some 54) rfl rfl (op_copy (n := l.length - i) (rs := (l.map encW).drop i) rfl (oT rfl) (oT rfl) rfl rfl (by show min _ _ = _; omega) (by rw [Nat.zero_add, List.take_of_length_le (by simp)]) (by simp) (by rw [hlen3]; omega)) tE ?_
  refine zq ?_
  refine nK ?_
  have hgr := ins_grow (l.map encW) i (encW x) (encW zW) (by rw [List.length_map]; omega)
  rw [List.length_map, ← insL_map] at hgr
  refine nK ?_
  refine za ?_
  refine zc ?_
  refine zd ?_
  refine zb ?_
  refine nK ?_
  refine Next.weakS [0, 2, 6] [] (by rfl) (keepsN hC _ rfl) (G' := [(6, .sl 2 1 0 (l.length + 1))]) (H' := [(2, OW (insL l i x))]) (by exact ⟨⟨_, rfl, .inl ⟨slEq rfl (by omega), rfl⟩⟩, trivial⟩) (by exact ⟨ent_same rfl rfl (by rw [← hgr]; simp only [Nat.zero_add]; rfl) trivial, trivial⟩) rfl ?_
  exact n_out1 rfl (by rfl) rfl rfl
 have hc4 : l.length + 1 ≤ cap := by simp at hb; omega
 refine nK ?_
 refine za ?_
 refine zc ?_
 refine zc ?_
 refine zc ?_
 refine zbm ?_
 refine rpZ 60 rfl (op_slice_room (h := l.length + 1) rfl (oT rfl) (Bnd.yes _ _ _ _ _ (oT rfl) (by intro _; simp)) (by intro _; omega)) ?_
 refine zd ?_
 refine zb ?_
 refine nK ?_
 refine nK ?_
 refine za ?_
 refine zc ?_
 refine zc ?_
 refine zc ?_
 refine zc ?_
 refine zbm ?_
 refine rpZ 66 rfl (op_slice_fromR (l := i + 1) rfl (oT rfl) (Bnd.yes _ _ _ _ _ (oT rfl) tQ) (by intro _; omega)) ?_
 refine rlZ 67 rfl (op_overlaps rfl (oT rfl) (oT rfl) rfl rfl rfl (by rw [List.length_map]; omega) rfl) ?_
 refine zbj ?_
 refine zb ?_
 refine nK ?_
 refine n_cond _ rfl (fun hb => ?_) (fun hb => ?_)
 ·refine nK ?_
  refine s_draw mixed ?_
  refine zc ?_
  refine zc ?_
  refine zc ?_
  refine zbm ?_
  refine rpZ 73 rfl (op_slice_fromR (l := i + 1) rfl (oT rfl) (Bnd.yes _ _ _ _ _ (oT rfl) tQ) (by intro _; omega)) ?_
  refine zc ?_
  refine zc ?_
  refine rpZ 76 rfl (op_slice_fromR (l := i) rfl (oT rfl) (Bnd.yes _ _ _ _ _ (oT rfl) tQ) (by intro _; omega)) ?_
  refine Run.effW (dd := some 77) rfl rfl (op_copy (n := l.length - i) (rs := (l.map encW).drop i) rfl (oT rfl) (oT rfl) rfl rfl (by show min _ _ = _; omega) (by rw [Nat.zero_add, List.take_of_length_le (by simp)]) (by simp) (by rw [List.length_map]; omega)) tE ?_
  refine zq ?_
  refine nK ?_
  have hl5 : ((l.map encW).take (0 + (i + 1)) ++ (l.map encW).drop i ++ (l.map encW).drop (0 + (i + 1) + (l.length - i))).length = l.length + 1 := by simp; omega
  have hgr := ins_room (l.map encW) i (encW x) (by rw [List.length_map]; omega)
  rw [List.length_map, ← insL_map] at hgr
  refine nK ?_
  refine za ?_
  refine zc ?_
  refine zc ?_
  refine rlZ 80 rfl (op_slice_view (l := i) (h := l.length + 1) rfl (Opd.wc _ _ _ (oT rfl)) (Bnd.yes _ _ _ _ _ (oT rfl) tQ) (Bnd.no _) (by intro _; refine ⟨rfl, ?_⟩; rw [hl5]; omega)) ?_
  refine zc ?_
  refine Run.eff (dd := some 82) rfl rfl (op_copy (n := 1) (rs := [x].map encW) rfl (oT rfl) (oT rfl) rfl rfl (by show min _ _ = _; omega) rfl rfl (by rw [hl5]; omega)) ?_
  refine zb ?_
  refine nK ?_
  refine za ?_
  refine zc ?_
  refine zd ?_
  refine zb ?_
  refine nK ?_
  refine Next.unwc 6 rfl ?_
  refine Next.retag 6 rfl rfl ?_
  refine Next.weakS [0, 2, 6] [] (by rfl) (keepsN hC _ rfl) (G' := [(6, .sl 2 1 0 (l.length + 1))]) (H' := [(2, OW (insL l i x))]) (by exact ⟨⟨_, rfl, .inl ⟨rfl, rfl⟩⟩, trivial⟩) (by exact ⟨ent_same rfl rfl (by rw [← hgr]; simp only [Nat.zero_add]; rfl) trivial, trivial⟩) rfl ?_
  exact n_out1 rfl (by rfl) rfl rfl
 exfalso; simp at hb
theorem cloneW_f (l : List Int) (hn : l.length ≤ 2000000) : Meets Tryz.prog 61 ([VW l].map PV.fz) 0 [] (.sl 0 1 0 l.length) [(0, OW l)] 1 := by
 refine Meets.intro Tryz.func61 rfl (Nat.le_of_ble_eq_true rfl) fun C hC => ?_
 simp only [List.map, argEnv, Nat.reduceAdd]
 refine nK ?_
 refine za ?_
 refine ze ?_
 refine zb ?_
 refine nK ?_
 refine za ?_
 refine zc ?_
 refine zdi ?_
 refine zb ?_
 refine nK ?_
 refine Next.abool 4 rfl (fun b hb0 => ?_)
 refine nK ?_
 refine n_cond _ rfl (fun hb => ?_) (fun hb => ?_)
 ·have he : l = [] := by have := hb0 hb; simpa using this
  subst he
  refine nK ?_
  refine za ?_
  refine ze ?_
  refine zb ?_
  refine nK ?_
  refine Next.adopt 2 1 rfl ?_
  exact wO hC
 refine nK ?_
 refine za ?_
 refine zcx ?_
 refine zc ?_
 refine zcy ?_
 refine zd ?_
 refine zb ?_
 refine nK ?_
 refine Next.weakS [2] [] (by rfl) (keeps0 hC _) (G' := [(2, .sl 0 1 0 l.length)]) (H' := [(0, OW l)]) wG wHE5b rfl ?_
 exact wO hC
theorem cloneW_c (l : List Int) (hn : l.length ≤ 2000000) : Pure Tryz.prog 61 [VW l] (VW l) := (cloneW_f l hn).freeze (by simp)
end Go.Proofs.YtkofbemgpeagbaaGreat
/- Messages: what follows from a check. No program in sight. -/
namespace Go.Pl
open Go Go.RT
set_option linter.all false
structure okM (m : Msg) : Prop where
  k : inr .i64 m.k
  px : m.px.ok
  la : inr .i64 m.la
theorem vlen {p : Pfx} (h : validB p = true) : 0 ≤ p.len ∧ p.len ≤ 32 := by
  unfold validB at h; simp at h; omega
structure goodM (m : Msg) : Prop where
  k1 : 1 ≤ m.k
  k4 : m.k ≤ 4
  px : validB m.px = true
  l4 : m.k = 4 → m.la = 0
  ln : m.k ≠ 4 → m.la = 3 ∨ (16 ≤ m.la ∧ m.la ≤ 1048575)
theorem msgE_iff (m : Msg) : msgE m = 0 ↔ goodM m := by
  unfold msgE
  by_cases a : (decide (m.k < 1) || decide (4 < m.k)) = true
  · rw [if_pos a]; simp at a
    exact ⟨fun h => (by cases h), fun h => by have := h.k1; have := h.k4; omega⟩
  · rw [if_neg a]; simp at a
    by_cases b : (!validB m.px) = true
    · rw [if_pos b]; simp at b
      exact ⟨fun h => (by cases h), fun h => by rw [h.px] at b; cases b⟩
    · rw [if_neg b]; simp at b
      by_cases c : (decide (m.k = 4) && decide (m.la ≠ 0)) = true
      · rw [if_pos c]; simp at c
        exact ⟨fun h => (by cases h), fun h => absurd (h.l4 c.1) c.2⟩
      · rw [if_neg c]; simp at c
        by_cases d : (decide (m.k ≠ 4) && decide (m.la ≠ 3) && (decide (m.la < 16) || decide (1048575 < m.la))) = true
        · rw [if_pos d]; simp at d
          exact ⟨fun h => (by cases h), fun h => by have := h.ln d.1.1; omega⟩
        · rw [if_neg d]; simp at d
          exact ⟨fun _ => ⟨by omega, by omega, b, c, fun h => by have := d h; omega⟩, fun _ => rfl⟩
theorem goodM.laR {m : Msg} (h : goodM m) : 0 ≤ m.la ∧ m.la ≤ 1048575 := by
  by_cases k : m.k = 4
  · have := h.l4 k; omega
  · have := h.ln k; omega
theorem num4_bd {b : List Int} (i : Nat) (h : ∀ x ∈ b, 0 ≤ x ∧ x < 256) : ∃ m : Nat, num4 b i = m ∧ m < 2 ^ 32 := by
  obtain ⟨m, h1, h2⟩ := fN_bd (l := (b.drop i).take 4) fun x hx => h x (List.mem_of_mem_drop (List.mem_of_mem_take hx))
  refine ⟨m, h1, Nat.lt_of_lt_of_le h2 ?_⟩
  have : ((b.drop i).take 4).length ≤ 4 := by simp; omega
  calc 256 ^ ((b.drop i).take 4).length ≤ 256 ^ 4 := Nat.pow_le_pow_right (by omega) this
    _ = 2 ^ 32 := by decide
theorem byte_at {b : List Int} {i : Nat} (hi : i < b.length) (h : ∀ x ∈ b, 0 ≤ x ∧ x < 256) : (b.map encY)[i]? = some (encY (b.getD i 0)) ∧ 0 ≤ b.getD i 0 ∧ b.getD i 0 < 256 := by
  have e : b.getD i 0 = b[i] := by simp [List.getD, hi]
  rw [e]
  exact ⟨by simp [hi], h _ (List.getElem_mem hi)⟩
theorem encMb_eq {m : Msg} (h : goodM m) : encMb m = ([m.k, m.px.len] ++ numB 4 m.px.addr) ++ (if m.k ≠ 4 then numB 4 m.la.toNat else []) := by
  obtain ⟨h1, h2⟩ := vlen h.px
  have h3 := h.k1
  have h4 := h.k4
  have h5 := h.laR
  have e : be4 m.la = numB 4 m.la.toNat := by rw [numB4]; congr 1; omega
  unfold encMb
  rw [numB4, e, show m.k % 256 = m.k by omega, show m.px.len % 256 = m.px.len by omega]
end Go.Pl
namespace Go.Proofs.YtkofbemgpeagbaaGreat
open Go Go.RT Go.Proofs Go.Pl
set_option linter.all false
set_option maxRecDepth 20000
set_option maxHeartbeats 4000000
theorem mcheck_c (m : Msg) (h : okM m) : Pure Tryz.prog 58 [.agg (encMs m)] (If .i64 (msgE m)) := by
 have kv := valid_any m.px h.px
 unfold msgE
 refine Meets.intro Tryz.func58 rfl (Nat.le_of_ble_eq_true rfl) fun C hC => ?_
 simp only [List.map, argEnv, Nat.reduceAdd]
 refine nK ?_
 refine za ?_
 refine zu ?_
 refine ze ?_
 refine zb ?_
 refine nK ?_
 refine za ?_
 refine zf ?_
 refine zh ?_
 refine zbq ?_
 refine zc ?_
 refine zp ?_
 refine zs ?_
 refine zbo ?_
 refine zbd ?_
 refine zd ?_
 refine zb ?_
 refine nK ?_
 refine n_cond _ rfl (fun hb => ?_) (fun hb => ?_)
 ·rw [if_pos hb]
  refine nK ?_
  refine za ?_
  refine ze ?_
  refine zb ?_
  refine nK ?_
  exact wO hC
 rw [if_neg (by rw [hb]; decide)]
 refine nK ?_
 refine za ?_
 refine zf ?_
 refine zbc ?_
 refine rpZ 15 rfl (op_call_pure (fun _ => kv) rfl (Opd.func _) (oS (oT rfl) Opds.nil)) ?_
 refine zbj ?_
 refine zd ?_
 refine zb ?_
 refine nK ?_
 refine n_cond _ rfl (fun hb => ?_) (fun hb => ?_)
 ·rw [if_pos hb]
  refine nK ?_
  refine za ?_
  refine ze ?_
  refine zb ?_
  refine nK ?_
  exact wO hC
 rw [if_neg (by rw [hb]; decide)]
 refine nK ?_
 refine za ?_
 refine zf ?_
 refine zh ?_
 refine zba ?_
 refine zc ?_
 refine zp ?_
 refine zs ?_
 refine zdu ?_
 refine zy ?_
 refine zd ?_
 refine zb ?_
 refine nK ?_
 refine n_cond _ rfl (fun hb => ?_) (fun hb => ?_)
 ·rw [if_pos hb]
  refine nK ?_
  refine za ?_
  refine ze ?_
  refine zb ?_
  refine nK ?_
  exact wO hC
 rw [if_neg (by rw [hb]; decide)]
 refine nK ?_
 refine za ?_
 refine zf ?_
 refine zh ?_
 refine zbe ?_
 refine zc ?_
 refine zp ?_
 refine zs ?_
 refine zdu ?_
 refine zy ?_
 refine zc ?_
 refine zp ?_
 refine zs ?_
 refine zct ?_
 refine zce ?_
 refine zp ?_
 refine zs ?_
 refine zbo ?_
 refine zda ?_
 refine zy ?_
 refine zd ?_
 refine zb ?_
 refine nK ?_
 refine n_cond _ rfl (fun hb => ?_) (fun hb => ?_)
 ·rw [if_pos hb]
  refine nK ?_
  refine za ?_
  refine ze ?_
  refine zb ?_
  refine nK ?_
  exact wO hC
 rw [if_neg (by rw [hb]; decide)]
 refine nK ?_
 refine za ?_
 refine ze ?_
 refine zb ?_
 refine nK ?_
 exact wO hC
theorem size_c (k : Int) : Pure Tryz.prog 104 [If .i64 k] (If .i64 (sizeM k)) := by
 unfold sizeM
 refine Meets.intro Tryz.func104 rfl (Nat.le_of_ble_eq_true rfl) fun C hC => ?_
 simp only [List.map, argEnv, Nat.reduceAdd]
 refine nK ?_
 refine za ?_
 refine ze ?_
 refine zb ?_
 refine nK ?_
 refine za ?_
 refine zc ?_
 refine zba ?_
 refine zb ?_
 refine nK ?_
 refine n_cond _ rfl (fun hb => ?_) (fun hb => ?_)
 ·rw [if_pos (by simpa using hb)]
  refine nK ?_
  refine za ?_
  refine ze ?_
  refine zb ?_
  refine nK ?_
  exact wO hC
 rw [if_neg (by simpa using hb)]
 refine nK ?_
 refine za ?_
 refine ze ?_
 refine zb ?_
 refine nK ?_
 exact wO hC
theorem encode_c (m : Msg) (h : okM m) : Pure Tryz.prog 27 [.agg (encMs m)] (.tup [VY (encodeF m).1, If .i64 (encodeF m).2]) := by
 have kc := mcheck_c m h
 unfold encodeF
 refine Meets.intro Tryz.func27 rfl (Nat.le_of_ble_eq_true rfl) fun C hC => ?_
 simp only [List.map, argEnv, Nat.reduceAdd]
 refine nK ?_
 refine za ?_
 refine zu ?_
 refine ze ?_
 refine ze ?_
 refine zb ?_
 refine nK ?_
 refine za ?_
 refine zm ?_
 refine rpZ 7 rfl (op_call_pure (fun _ => kc) rfl (Opd.func _) (oS (oT rfl) Opds.nil)) ?_
 refine zd ?_
 refine zb ?_
 refine nK ?_
 refine za ?_
 refine zc ?_
 refine zbe ?_
 refine zb ?_
 refine nK ?_
 refine n_cond _ rfl (fun hb => ?_) (fun hb => ?_)
 ·rw [if_pos (by simpa using hb)]
  refine nK ?_
  refine za ?_
  refine zc ?_
  refine ze ?_
  refine zd ?_
  refine zb ?_
  refine nK ?_
  refine Next.weakS [] [] (by rfl) (keeps0 hC _) (G' := [(2, .fz (VY [])), (3, IV .i64 (msgE m))]) (H' := []) wF trivial rfl ?_
  exact wO hC
 have h0 : msgE m = 0 := by simpa using hb
 rw [if_neg (by simpa using h0)]
 have hg := (msgE_iff m).1 h0
 have h1 := hg.k1
 have h2 := hg.k4
 obtain ⟨h3, h4⟩ := vlen hg.px
 obtain ⟨h5, h6⟩ := hg.laR
 have ha := h.px.1
 have k1 := put_c [m.k, m.px.len] 4 m.px.addr (by simp) (by omega) (by omega)
 have k2 := put_c ([m.k, m.px.len] ++ numB 4 m.px.addr) 4 m.la.toNat (by simp [numB_len]) (by omega) (by omega)
 rw [show ((m.la.toNat : Nat) : Int) = m.la by omega] at k2
 rw [encMb_eq hg]
 dsimp only
 refine nK ?_
 refine za ?_
 refine zf ?_
 refine zh ?_
 refine zbh ?_
 refine zf ?_
 refine zf ?_
 refine zh ?_
 refine zbh ?_
 refine zcw ?_
 refine zf ?_
 refine zf ?_
 refine zh ?_
 refine zbh ?_
 refine rpZ 23 rfl (op_call_pure (fun _ => k1) rfl (Opd.func _) (oS (oT rfl) (oS oC (oS (oT rfl) Opds.nil)))) ?_
 refine zd ?_
 refine zb ?_
 refine nK ?_
 refine za ?_
 refine zf ?_
 refine zh ?_
 refine zbe ?_
 refine zb ?_
 refine nK ?_
 refine n_cond _ rfl (fun hb => ?_) (fun hb => ?_)
 ·rw [if_pos (by simpa using hb)]
  refine nK ?_
  refine za ?_
  refine zc ?_
  refine zf ?_
  refine zh ?_
  refine zbh ?_
  refine rpZ 31 rfl (op_call_pure (fun _ => k2) rfl (Opd.func _) (oS (oT rfl) (oS oC (oS (oT rfl) Opds.nil)))) ?_
  refine zd ?_
  refine zb ?_
  refine nK ?_
  refine za ?_
  refine zc ?_
  refine zd ?_
  refine ze ?_
  refine zb ?_
  refine nK ?_
  exact wO hC
 rw [if_neg (by simpa using hb), List.append_nil]
 refine nK ?_
 refine za ?_
 refine zc ?_
 refine zd ?_
 refine ze ?_
 refine zb ?_
 refine nK ?_
 exact wO hC
theorem decode_c (b : List Int) (hbb : ∀ x ∈ b, 0 ≤ x ∧ x < 256) (hl : b.length ≤ 9223372036854775807) : Pure Tryz.prog 68 [VY b] (.tup [.agg (encMs (decodeF b).1), If .i64 (decodeF b).2]) := by
 unfold decodeF
 refine Meets.intro Tryz.func68 rfl (Nat.le_of_ble_eq_true rfl) fun C hC => ?_
 simp only [List.map, argEnv, Nat.reduceAdd]
 refine nK ?_
 refine za ?_
 refine zo ?_
 refine ze ?_
 refine zb ?_
 refine nK ?_
 refine za ?_
 refine zc ?_
 refine zk ?_
 refine zba ?_
 refine zb ?_
 refine nK ?_
 refine n_cond _ rfl (fun hb => ?_) (fun hb => ?_)
 ·rw [if_pos (by simp at hb; simp [hb])]
  refine nK ?_
  refine za ?_
  refine zbg ?_
  refine zg ?_
  refine ze ?_
  refine zb ?_
  refine nK ?_
  exact wO hC
 have h0 : 0 < b.length := by simp at hb; exact List.length_pos_iff.2 hb
 rw [if_neg (by omega)]
 obtain ⟨hr0, hk1, hk2⟩ := byte_at h0 hbb
 obtain ⟨k, hk⟩ : ∃ k, b.getD 0 0 = k := ⟨_, rfl⟩
 rw [hk] at hr0 hk1 hk2 ⊢
 have ks := size_c k
 refine nK ?_
 refine za ?_
 refine zc ?_
 refine rpZ 16 rfl (op_idx_fz 0 rfl (oT rfl) oC (by intro _; exact ⟨rfl, hr0⟩)) ?_
 refine zt ?_
 refine zbh ?_
 refine zd ?_
 refine zb ?_
 refine nK ?_
 refine za ?_
 refine zc ?_
 refine zbq ?_
 refine zc ?_
 refine zl ?_
 refine zbo ?_
 refine zbd ?_
 refine zd ?_
 refine zb ?_
 refine nK ?_
 refine n_cond _ rfl (fun hb => ?_) (fun hb => ?_)
 ·rw [if_pos hb]
  refine nK ?_
  refine za ?_
  refine zbg ?_
  refine zg ?_
  refine ze ?_
  refine zb ?_
  refine nK ?_
  exact wO hC
 rw [if_neg (by rw [hb]; decide)]
 have hkr : 1 ≤ k ∧ k ≤ 4 := by simp at hb; omega
 refine nK ?_
 refine za ?_
 refine zc ?_
 refine zk ?_
 refine zc ?_
 refine rpZ 31 rfl (op_call_pure (fun _ => ks) rfl (Opd.func _) (oS (oT rfl) Opds.nil)) ?_
 refine zn ?_
 refine zd ?_
 refine zb ?_
 refine nK ?_
 refine n_cond _ rfl (fun hb => ?_) (fun hb => ?_)
 ·rw [if_pos (by simpa using hb)]
  refine nK ?_
  refine za ?_
  refine zbg ?_
  refine zg ?_
  refine ze ?_
  refine zb ?_
  refine nK ?_
  exact wO hC
 rw [if_neg (by simpa using hb)]
 refine nK ?_
 refine za ?_
 refine zc ?_
 refine zk ?_
 refine zc ?_
 refine rpZ 38 rfl (op_call_pure (fun _ => ks) rfl (Opd.func _) (oS (oT rfl) Opds.nil)) ?_
 refine zbz ?_
 refine zd ?_
 refine zb ?_
 refine nK ?_
 refine n_cond _ rfl (fun hb => ?_) (fun hb => ?_)
 ·rw [if_pos (by simpa using hb)]
  refine nK ?_
  refine za ?_
  refine zbg ?_
  refine zg ?_
  refine ze ?_
  refine zb ?_
  refine nK ?_
  exact wO hC
 rw [if_neg (by simpa using hb)]
 rename_i hb1
 have hlen : b.length = sizeM k := by simp at hb hb1; omega
 have hsz : 6 ≤ sizeM k := by unfold sizeM; split <;> omega
 have g2 := get_c b 2 hbb (by omega) hl
 obtain ⟨m2, hm2, hb2⟩ := num4_bd 2 hbb
 obtain ⟨hr1, hn1, hn2⟩ := byte_at (i := 1) (by omega) hbb
 obtain ⟨n1, hn⟩ : ∃ n, b.getD 1 0 = n := ⟨_, rfl⟩
 rw [hn] at hr1 hn1 hn2
 rw [hm2] at g2
 refine nK ?_
 refine za ?_
 refine zc ?_
 refine rpZ 43 rfl (op_call_pure (fun _ => g2) rfl (Opd.func _) (oS (oT rfl) (oS oC (oS oC Opds.nil)))) ?_
 refine zc ?_
 refine zi ?_
 refine zi ?_
 refine zd ?_
 refine zd ?_
 refine zb ?_
 refine nK ?_
 refine za ?_
 refine zc ?_
 refine zc ?_
 refine zbh ?_
 refine zc ?_
 refine rpZ 50 rfl (op_idx_fz 1 rfl (oT rfl) oC (by intro _; exact ⟨rfl, hr1⟩)) ?_
 refine zt ?_
 refine zbh ?_
 refine zbn ?_
 refine zbn ?_
 refine zo ?_
 refine zg ?_
 refine zb ?_
 refine nK ?_
 refine za ?_
 refine zc ?_
 refine zbe ?_
 refine zb ?_
 refine nK ?_
 refine n_cond _ rfl (fun hb => ?_) (fun hb => ?_)
 ·have hk4 : k ≠ 4 := by simpa using hb
  have g6 := get_c b 6 hbb (by unfold sizeM at hlen; rw [if_neg hk4] at hlen; omega) hl
  obtain ⟨m6, hm6, hb6⟩ := num4_bd 6 hbb
  rw [hm6] at g6
  have hM : rawM b = ⟨k, ⟨m2, n1⟩, m6⟩ := by unfold rawM; rw [hk, hm2, hn, hm6, if_neg hk4]; rfl
  rw [hM]
  have kc := mcheck_c ⟨k, ⟨m2, n1⟩, m6⟩ ⟨by simp only [inr]; omega, ⟨hb2, by simp only [inr]; omega⟩, by simp only [inr]; omega⟩
  refine nK ?_
  refine za ?_
  refine zc ?_
  refine rpZ 59 rfl (op_call_pure (fun _ => g6) rfl (Opd.func _) (oS (oT rfl) (oS oC (oS oC Opds.nil)))) ?_
  refine zc ?_
  refine zi ?_
  refine zi ?_
  refine zd ?_
  refine zd ?_
  refine zb ?_
  refine nK ?_
  refine za ?_
  refine zc ?_
  refine zbh ?_
  refine zf ?_
  refine zg ?_
  refine zb ?_
  refine nK ?_
  refine za ?_
  refine zm ?_
  refine rpZ 66 rfl (op_call_pure (fun _ => kc) rfl (Opd.func _) (oS (oT rfl) Opds.nil)) ?_
  refine zd ?_
  refine zb ?_
  refine nK ?_
  refine za ?_
  refine zc ?_
  refine zbe ?_
  refine zb ?_
  refine nK ?_
  refine n_cond _ rfl (fun hb => ?_) (fun hb => ?_)
  ·rw [if_pos (by simpa using hb)]
   refine nK ?_
   refine za ?_
   refine zbg ?_
   refine zc ?_
   refine zg ?_
   refine zd ?_
   refine zb ?_
   refine nK ?_
   exact wO hC
  rw [if_neg (by simpa using hb)]
  refine nK ?_
  refine za ?_
  refine zm ?_
  refine zg ?_
  refine ze ?_
  refine zb ?_
  refine nK ?_
  exact wO hC
 have hk4 : k = 4 := by simpa using hb
 have hM : rawM b = ⟨k, ⟨m2, n1⟩, 0⟩ := by unfold rawM; rw [hk, hm2, hn, if_pos hk4]; rfl
 rw [hM]
 have kc := mcheck_c ⟨k, ⟨m2, n1⟩, 0⟩ ⟨by simp only [inr]; omega, ⟨hb2, by simp only [inr]; omega⟩, by simp only [inr]; omega⟩
 refine nK ?_
 refine za ?_
 refine zm ?_
 refine rpZ 66 rfl (op_call_pure (fun _ => kc) rfl (Opd.func _) (oS (oT rfl) Opds.nil)) ?_
 refine zd ?_
 refine zb ?_
 refine nK ?_
 refine za ?_
 refine zc ?_
 refine zbe ?_
 refine zb ?_
 refine nK ?_
 refine n_cond _ rfl (fun hb => ?_) (fun hb => ?_)
 ·rw [if_pos (by simpa using hb)]
  refine nK ?_
  refine za ?_
  refine zbg ?_
  refine zc ?_
  refine zg ?_
  refine zd ?_
  refine zb ?_
  refine nK ?_
  exact wO hC
 rw [if_neg (by simpa using hb)]
 refine nK ?_
 refine za ?_
 refine zm ?_
 refine zg ?_
 refine ze ?_
 refine zb ?_
 refine nK ?_
 exact wO hC
end Go.Proofs.YtkofbemgpeagbaaGreat
/- What the methods of the program's run do. No program in sight. -/
namespace Go.Pl
open Go Go.RT
set_option linter.all false
abbrev R7 (f0 f1 f2 f3 f4 f5 : FV) (out : List Snd) : Option Ob := some (.refs 7 [[.fz f0, .fz f1, .fz f2, .fz f3, .fz f4, .fz f5, .own 2 (out.map encSn)]])
def upG (ro : Int) (lc : List Bnd) (ps : List Int) (n : Int) : Int × List Int × List Snd :=
  if (decide (n = 0) || decide (n = ro)) = true then (5, ps, []) else if ps.contains n = true then (7, ps, []) else (0, insI n ps, lc.map fun b => msgS n 1 b.px b.la)
def downG (rm : List Bnd) (ps : List Int) (n : Int) : Int × List Int × List Bnd :=
  if (!ps.contains n) = true then (6, ps, rm) else (0, ps.filter fun x => decide (x ≠ n), rm.filter fun b => !decide (b.pe = n))
def dataG (ro : Int) (lc rm : List Bnd) (ps : List Int) (n : Int) (d : List Int) : Int × List Bnd × List Snd :=
  if (!ps.contains n) = true then (6, rm, []) else if (decodeF d).2 ≠ 0 then ((decodeF d).2, rm, []) else
  let m := (decodeF d).1
  if m.k = 1 then (0, bindL rm ⟨m.px, n, m.la⟩, []) else
  if m.k = 2 then (if ((findB rm m.px n).isSome && decide ((findB rm m.px n).getD 0 = m.la)) = true then (0, unbL rm m.px n, [msgS n 3 m.px m.la]) else (0, rm, [])) else
  if m.k = 4 then (if (findB lc m.px ro).isSome = true then (0, rm, [msgS n 1 m.px ((findB lc m.px ro).getD 0)]) else (0, rm, [])) else (0, rm, [])
structure okB' (b : Bnd) : Prop where
  px : b.px.ok
  la : inr .i64 b.la
theorem okB'.msg {b : Bnd} (h : okB' b) (k : Int) (hk : inr .i64 k) : okM ⟨k, b.px, b.la⟩ := ⟨hk, h.px, h.la⟩
theorem map_take_succ {α β : Type} (f : α → β) {l : List α} {i : Nat} (h : i < l.length) : (l.take (i + 1)).map f = (l.take i).map f ++ [f l[i]] := by
  rw [List.take_succ_eq_append_getElem h, List.map_append]; rfl
theorem decode_ok {d : List Int} (h : ∀ x ∈ d, 0 ≤ x ∧ x < 256) : okM (decodeF d).1 ∧ ((decodeF d).2 = 0 → goodM (decodeF d).1) := by
  have hz : okM zMsg := ⟨by simp [zMsg, inr], ⟨by simp [zMsg], by simp [zMsg, inr]⟩, by simp [zMsg, inr]⟩
  unfold decodeF
  by_cases h0 : d.length = 0
  · rw [if_pos h0]; exact ⟨hz, fun h => (by cases h)⟩
  rw [if_neg h0]
  split
  · exact ⟨hz, fun h => (by cases h)⟩
  · split
    · exact ⟨hz, fun h => (by cases h)⟩
    · split
      · exact ⟨hz, fun h => (by cases h)⟩
      · next k1 k2 k3 =>
        split
        · next k => exact ⟨hz, fun h => absurd h k⟩
        · next k =>
          refine ⟨?_, fun _ => (msgE_iff _).1 (by simpa using k)⟩
          have hsz : 6 ≤ sizeM (d.getD 0 0) := by unfold sizeM; split <;> omega
          obtain ⟨_, b1, b2⟩ := byte_at (i := 0) (by omega) h
          obtain ⟨_, b3, b4⟩ := byte_at (i := 1) (by omega) h
          obtain ⟨m2, q1, q2⟩ := num4_bd 2 h
          obtain ⟨m6, q3, q4⟩ := num4_bd 6 h
          unfold rawM
          refine ⟨by simp only [inr]; omega, ⟨by simp only; omega, by simp only [inr]; omega⟩, ?_⟩
          simp only [inr]
          split <;> omega
theorem bsI_lt {n : Int} {l : List Int} (h : ascP' l) (hn : n ∈ l) : bsQ n l < l.length := by
  obtain ⟨h1, _, h3⟩ := bsQ_spec (n := n) h
  rcases Nat.lt_or_ge (bsQ n l) l.length with h | h
  · exact h
  · obtain ⟨i, hi, he⟩ := List.getElem_of_mem hn
    have := h1 i (by omega) hi
    omega
end Go.Pl
namespace Go.Proofs.YtkofbemgpeagbaaGreat
open Go Go.RT Go.Proofs Go.Pl
set_option linter.all false
set_option maxRecDepth 20000
set_option maxHeartbeats 4000000
theorem wHE7a {α : Prop} (h : α := by repeat (first | exact trivial | refine ⟨wS, ?_⟩ | refine ⟨ent_same rfl rfl (rfEq rfl tU) tL, ?_⟩ | refine ⟨ent_same rfl rfl (flEq rfl (by first | (simp; done) | (simp; omega) | (simp [encP, encW, encY, encMs, encBn, encSn]; done) | simp [maxC, minC])) trivial, ?_⟩)) : α := h
theorem send_m (f0 f1 f2 f3 f4 f5 : FV) (out : List Snd) (k la : Int) (p : Pfx) (ps : List Int) (hm : okM ⟨k, p, la⟩) (hn : out.length + ps.length ≤ 1000000) : Meets Tryz.prog 64 [.ptr 0 7 0 0, IV .i64 k, .fz (.agg (encP p)), IV .i64 la, .fz (VW ps)] 1 [(0, R7 f0 f1 f2 f3 f4 f5 out)] (.fz (.tup [])) [(0, R7 f0 f1 f2 f3 f4 f5 (out ++ ps.map fun n => msgS n k p la))] 1 := by
 have ke := encode_c ⟨k, p, la⟩ hm
 refine Meets.intro Tryz.func64 rfl (Nat.le_of_ble_eq_true rfl) fun C hC => ?_
 simp only [List.map, argEnv, Nat.reduceAdd]
 refine nK ?_
 refine za ?_
 refine zu ?_
 refine zb ?_
 refine nK ?_
 refine za ?_
 refine zc ?_
 refine zk ?_
 refine zx ?_
 refine zb ?_
 refine nK ?_
 refine n_loop (ι := Nat) (fun i => ([(0, .ptr 0 7 0 0), (1, IV .i64 k), (3, IV .i64 la), (7, .fz (.cellp (encP p))), (14, .fz (VW ps)), (15, IV .i64 ps.length), (16, IV .i64 i)], [(0, R7 f0 f1 f2 f3 f4 f5 (out ++ (ps.take i).map fun n => msgS n k p la))], 1)) (fun i => i ≤ ps.length) (fun i => ps.length - i) 0 (Nat.zero_le _) ?_ ?_
 ·refine Next.weakS [0] [7] (by rfl) (keepsN hC _ rfl) wF wHE7a rfl rel_intro
 intro i hi K hK
 refine nK ?_
 refine za ?_
 refine zn ?_
 refine zb ?_
 refine nK ?_
 refine n_cond _ rfl (fun hb => ?_) (fun hb => ?_)
 ·have hlt : i < ps.length := by simp at hb; omega
  have hr1 := row_at' encW ps i hlt
  have hK1 := hK (i + 1) (by omega) (by omega)
  rw [map_take_succ _ hlt, ← List.append_assoc] at hK1
  unfold R7 at hK1
  rw [app2'] at hK1
  have hol : (out ++ (ps.take i).map fun n => msgS n k p la).length ≤ 1000000 := by simp; omega
  generalize (out ++ (ps.take i).map fun n => msgS n k p la) = o at *
  unfold msgS at hK1
  generalize ps[i] = n at *
  generalize encodeF ⟨k, p, la⟩ = r at *
  refine nK ?_
  refine za ?_
  refine zr ?_
  refine zt ?_
  refine zd ?_
  refine zb ?_
  refine nK ?_
  refine za ?_
  refine zc ?_
  refine zv ?_
  refine zc ?_
  refine zcd ?_
  refine rpZ 25 rfl (op_call_pure (fun _ => ke) rfl (Opd.func _) (oS (oT rfl) Opds.nil)) ?_
  refine zc ?_
  refine zi ?_
  refine zi ?_
  refine zd ?_
  refine zd ?_
  refine zb ?_
  refine nK ?_
  refine Next.take 0 0 6 rfl rfl rfl rfl ?_
  refine nK ?_
  refine za ?_
  refine zc ?_
  refine zc ?_
  refine zw ?_
  refine zf ?_
  refine zbb ?_
  refine zc ?_
  refine zc ?_
  refine zbn ?_
  refine zqqz ?_
  refine zbi ?_
  refine zw ?_
  refine zf ?_
  refine zcb ?_
  refine zb ?_
  refine nK ?_
  refine za ?_
  refine zj ?_
  refine zc ?_
  refine zb ?_
  refine nK ?_
  refine Next.untake 0 0 6 rfl rfl rfl rfl (by simp) rfl ?_
  refine Next.weakS [0] [] (by rfl) (keepsN hC _ rfl) wG wHE7a rfl hK1
 have hie : i = ps.length := by simp at hb; omega
 rw [hie, List.take_length]
 refine nK ?_
 refine Next.weakS [0] [] (by rfl) (keepsN hC _ rfl) (G' := []) (H' := [(0, R7 f0 f1 f2 f3 f4 f5 (out ++ ps.map fun n => msgS n k p la))]) trivial wHE7a rfl ?_
 exact n_out0 rfl
open Go Go.RT Go.Proofs Go.Pl
set_option maxRecDepth 20000
set_option maxHeartbeats 1000000
theorem wHE8a {α : Prop} (h : α := by repeat (first | exact trivial | refine ⟨wS, ?_⟩ | refine ⟨ent_same rfl rfl (rfEq rfl tU) tL, ?_⟩ | refine ⟨ent_same rfl rfl (flEq rfl (by first | (simp; done) | (simp; omega) | (simp [encP, encW, encY, encMs, encBn, encSn]; done) | simp [maxC, minC])) trivial, ?_⟩)) : α := h
theorem wHE8b {α : Prop} (h : α := by repeat (first | exact trivial | refine ⟨⟨rfl, rfl, rfl, tL⟩, ?_⟩)) : α := h
abbrev RU (f0 f1 f2 f3 : FV) (ps : List Int) (f5 : FV) : Option Ob := some (.refs 7 [[.fz f0, .fz f1, .fz f2, .fz f3, .own 1 (ps.map encW), .fz f5, .own 2 []]])
theorem up_m (ro n : Int) (f1 f3 f5 : FV) (lc : List Bnd) (ps : List Int) (hl : ∀ b ∈ lc, okB' b) (hps : ascP' ps) (hn : lc.length ≤ 100000) (hm : ps.length ≤ 100000) : Meets Tryz.prog 38 [.ptr 0 7 0 0, IV .u32 n] 1 [(0, RU (If .u32 ro) f1 (VBn lc) f3 ps f5)] (IV .i64 (upG ro lc ps n).1) [(0, R7 (If .u32 ro) f1 (VBn lc) f3 (VW (upG ro lc ps n).2.1) f5 (upG ro lc ps n).2.2)] 1 := by
 have kb : Pure Tryz.prog 62 [VW ps, If .u32 n] (.tup [If .i64 (bsQ n ps : Nat), Bf (ps.contains n)]) := by
  rw [← hitQ_eq hps]; exact bsearchW_c ps n (by omega)
 obtain ⟨_, _, hble⟩ := bsQ_spec (n := n) hps
 unfold upG
 refine Meets.intro Tryz.func38 rfl (Nat.le_of_ble_eq_true rfl) fun C hC => ?_
 simp only [List.map, argEnv, Nat.reduceAdd]
 refine nK ?_
 refine za ?_
 refine ze ?_
 refine zb ?_
 refine nK ?_
 refine za ?_
 refine zc ?_
 refine zba ?_
 refine zc ?_
 refine zl ?_
 refine zl ?_
 refine zdj ?_
 refine zck ?_
 refine zck ?_
 refine zdk ?_
 refine zbp ?_
 refine zbd ?_
 refine zb ?_
 refine nK ?_
 refine Next.take 0 0 4 rfl rfl rfl rfl ?_
 refine nK ?_
 refine n_cond _ rfl (fun hb => ?_) (fun hb => ?_)
 ·rw [if_pos hb]
  refine nK ?_
  refine za ?_
  refine ze ?_
  refine zb ?_
  refine nK ?_
  refine Next.freezeCell 0 0 4 1 rfl rfl rfl rfl rfl rfl ?_
  refine Next.weakS [0] [] (by rfl) (keepsN hC _ rfl) (G' := [(4, IV .i64 5)]) (H' := [(0, R7 (If .u32 ro) f1 (VBn lc) f3 (VW ps) f5 [])]) wG wHE8a rfl ?_
  exact n_out1 rfl (by rfl) rfl rfl
 rw [if_neg (by rw [hb]; decide)]
 refine nK ?_
 refine za ?_
 refine zc ?_
 refine zw ?_
 refine zf ?_
 refine zf ?_
 refine zbb ?_
 refine zc ?_
 refine rlZ 27 rfl (op_call_lend [1] (fun _ => kb) rfl (Opd.func _) (oS (oT rfl) (oS (oT rfl) Opds.nil)) (by exact .cons _ _ _ _ tW (.cons _ _ _ _ tW .nil)) rfl rfl) ?_
 refine zc ?_
 refine zi ?_
 refine zi ?_
 refine zd ?_
 refine zd ?_
 refine zb ?_
 refine nK ?_
 refine za ?_
 refine zc ?_
 refine zb ?_
 refine nK ?_
 refine n_cond _ rfl (fun hb => ?_) (fun hb => ?_)
 ·rw [if_pos hb]
  refine nK ?_
  refine za ?_
  refine ze ?_
  refine zb ?_
  refine nK ?_
  refine Next.freezeCell 0 0 4 1 rfl rfl rfl rfl rfl rfl ?_
  refine Next.weakS [0] [] (by rfl) (keepsN hC _ rfl) (G' := [(4, IV .i64 7)]) (H' := [(0, R7 (If .u32 ro) f1 (VBn lc) f3 (VW ps) f5 [])]) wG wHE8a rfl ?_
  exact n_out1 rfl (by rfl) rfl rfl
 rw [if_neg (by rw [hb]; decide)]
 have kn := insertW_c ps n (bsQ n ps) (by omega) hble
 have hni : n ∉ ps := by simpa using hb
 have hil := insI_len n ps
 rw [insI_bs hps hni, ← hil] at kn
 have hle : (ps.map encW).length = ps.length := List.length_map _
 generalize bsQ n ps = k at *
 rw [← hle] at kn
 generalize hq : insI n ps = qs at *
 refine nK ?_
 refine za ?_
 refine zc ?_
 refine zc ?_
 refine zw ?_
 refine zf ?_
 refine zf ?_
 refine zbb ?_
 refine zc ?_
 refine zc ?_
 refine zcz ?_
 refine Run.eff (dd := some 40) rfl rfl (op_call (n := 2) (n' := 3) [1, 2] (fun _ => kn) rfl (Opd.func _) (oS (oT rfl) (oS (oT rfl) (oS (oT rfl) Opds.nil))) rfl rfl (Lent.of rfl rfl wHE8b rfl) rfl rfl rfl rfl rfl) ?_
 refine zw ?_
 refine zf ?_
 refine zf ?_
 refine zcb ?_
 refine zb ?_
 refine nK ?_
 refine Next.freezeCell 0 0 4 3 rfl rfl rfl rfl (List.length_map _) rfl ?_
 refine nK ?_
 refine za ?_
 refine zc ?_
 refine zw ?_
 refine zf ?_
 refine zf ?_
 refine zbb ?_
 refine zk ?_
 refine zx ?_
 refine zb ?_
 refine nK ?_
 refine n_loop (ι := Nat) (fun i => ([(0, .ptr 0 7 0 0), (1, IV .u32 n), (48, .fz (VBn lc)), (49, IV .i64 lc.length), (50, IV .i64 i)], [(0, R7 (If .u32 ro) f1 (VBn lc) f3 (VW qs) f5 ((lc.take i).map fun b => msgS n 1 b.px b.la))], 1)) (fun i => i ≤ lc.length) (fun i => lc.length - i) 0 (Nat.zero_le _) ?_ ?_
 ·refine Next.weakS [0] [] (by rfl) (keepsN hC _ rfl) wG wHE8a rfl rel_intro
 intro i hi K hK
 refine nK ?_
 refine za ?_
 refine zn ?_
 refine zb ?_
 refine nK ?_
 refine n_cond _ rfl (fun hb => ?_) (fun hb => ?_)
 ·have hlt : i < lc.length := by simp at hb; omega
  have hr1 := row_at' encBn lc i hlt
  have hK1 := hK (i + 1) (by omega) (by omega)
  rw [map_take_succ _ hlt] at hK1
  have hob := hl _ (List.getElem_mem hlt)
  generalize lc[i] = b at *
  have ks := fun o ho => send_m (If .u32 ro) f1 (VBn lc) f3 (VW qs) f5 o 1 b.la b.px [n] (hob.msg 1 (by simp [inr])) ho
  have hol : ((lc.take i).map fun b => msgS n 1 b.px b.la).length ≤ 100000 := by simp; omega
  generalize ((lc.take i).map fun b => msgS n 1 b.px b.la) = o at *
  have ks := ks o (by simp; omega)
  refine nK ?_
  refine za ?_
  refine zr ?_
  refine zv ?_
  refine zo ?_
  refine zg ?_
  refine zb ?_
  refine nK ?_
  refine za ?_
  refine zc ?_
  refine zf ?_
  refine zbc ?_
  refine zf ?_
  refine zh ?_
  refine zc ?_
  refine zqqz ?_
  refine Run.eff (dd := some 61) rfl rfl (op_call (n := 1) (n' := 1) [0] (fun _ => ks) rfl (Opd.func _) (oS (oT rfl) (oS oC (oS (oT rfl) (oS (oT rfl) (oS (oT rfl) Opds.nil))))) rfl rfl (Lent.of rfl rfl wHE8b rfl) rfl rfl rfl rfl rfl) ?_
  refine zb ?_
  refine nK ?_
  refine za ?_
  refine zj ?_
  refine zc ?_
  refine zb ?_
  refine nK ?_
  refine Next.weakS [0] [] (by rfl) (keepsN hC _ rfl) wG wHE8a rfl hK1
 have hie : i = lc.length := by simp at hb; omega
 rw [hie, List.take_length]
 refine nK ?_
 refine za ?_
 refine ze ?_
 refine zb ?_
 refine nK ?_
 refine Next.weakS [0] [] (by rfl) (keepsN hC _ rfl) (G' := [(4, IV .i64 0)]) (H' := [(0, R7 (If .u32 ro) f1 (VBn lc) f3 (VW qs) f5 (lc.map fun b => msgS n 1 b.px b.la))]) wG wHE8a rfl ?_
 exact n_out1 rfl (by rfl) rfl rfl
theorem downT_c (n : Int) (b : Bnd) : Pure Tryz.prog 67 [.agg (encBn b), .cellp [If .u32 n]] (Bf (decide (b.pe = n))) := by
 refine Meets.intro Tryz.func67 rfl (Nat.le_of_ble_eq_true rfl) fun C hC => ?_
 simp only [List.map, argEnv, Nat.reduceAdd]
 refine nK ?_
 refine za ?_
 refine zu ?_
 refine ze ?_
 refine zb ?_
 refine nK ?_
 refine za ?_
 refine zf ?_
 refine zh ?_
 refine zt ?_
 refine zbx ?_
 refine zd ?_
 refine zb ?_
 refine nK ?_
 exact wO hC
abbrev RD (f0 f1 f2 : FV) (rm : List Bnd) (ps : List Int) (f5 : FV) : Option Ob := some (.refs 7 [[.fz f0, .fz f1, .fz f2, .own 4 (rm.map encBn), .own 1 (ps.map encW), .fz f5, .own 2 []]])
theorem down_m (n : Int) (f0 f1 f2 f5 : FV) (rm : List Bnd) (ps : List Int) (hps : ascP' ps) (hn : rm.length ≤ 100000) (hm : ps.length ≤ 100000) : Meets Tryz.prog 39 [.ptr 0 7 0 0, IV .u32 n] 1 [(0, RD f0 f1 f2 rm ps f5)] (IV .i64 (downG rm ps n).1) [(0, R7 f0 f1 f2 (VBn (downG rm ps n).2.2) (VW (downG rm ps n).2.1) f5 [])] 1 := by
 have kb : Pure Tryz.prog 62 [VW ps, If .u32 n] (.tup [If .i64 (bsQ n ps : Nat), Bf (ps.contains n)]) := by
  rw [← hitQ_eq hps]; exact bsearchW_c ps n (by omega)
 unfold downG
 refine Meets.intro Tryz.func39 rfl (Nat.le_of_ble_eq_true rfl) fun C hC => ?_
 simp only [List.map, argEnv, Nat.reduceAdd]
 refine nK ?_
 refine za ?_
 refine zu ?_
 refine ze ?_
 refine zb ?_
 refine nK ?_
 refine Next.weakS [0] [3] (by rfl) (keepsN hC _ rfl) (G' := [(0, .ptr 0 7 0 0), (3, .fz (.cellp [If .u32 n]))]) (H' := [(0, RD f0 f1 f2 rm ps f5)]) wF wHE8a rfl ?_
 refine Next.take 0 0 4 rfl rfl rfl rfl ?_
 refine Next.take 0 0 3 rfl rfl rfl rfl ?_
 refine nK ?_
 refine s_draw mixed ?_
 refine zc ?_
 refine zw ?_
 refine zf ?_
 refine zf ?_
 refine zbb ?_
 refine zt ?_
 refine rlZ 14 rfl (op_call_lend [1] (fun _ => kb) rfl (Opd.func _) (oS (oT rfl) (oS (oT rfl) Opds.nil)) (by exact .cons _ _ _ _ tW (.cons _ _ _ _ tW .nil)) rfl rfl) ?_
 refine zc ?_
 refine zi ?_
 refine zi ?_
 refine zd ?_
 refine zd ?_
 refine zq ?_
 refine nK ?_
 refine za ?_
 refine zc ?_
 refine zbj ?_
 refine zb ?_
 refine nK ?_
 refine n_cond _ rfl (fun hb => ?_) (fun hb => ?_)
 ·rw [if_pos hb]
  refine nK ?_
  refine za ?_
  refine ze ?_
  refine zb ?_
  refine nK ?_
  refine Next.freezeCell 0 0 4 1 rfl rfl rfl rfl rfl rfl ?_
  refine Next.freezeCell 0 0 3 2 rfl rfl rfl rfl rfl rfl ?_
  refine Next.weakS [0] [] (by rfl) (keepsN hC _ rfl) (G' := [(4, IV .i64 6)]) (H' := [(0, R7 f0 f1 f2 (VBn rm) (VW ps) f5 [])]) wG wHE8a rfl ?_
  exact n_out1 rfl (by rfl) rfl rfl
 rw [if_neg (by rw [hb]; decide)]
 have hin : n ∈ ps := by simpa using hb
 have hlt := bsI_lt hps hin
 have hdb := del_bs hps hin
 have kd := deleteW_c ps 0 (bsQ n ps) (bsQ n ps + 1) (by omega) (by omega) (by omega)
 rw [hdb, List.replicate_zero, List.append_nil, show bsQ n ps + 1 - bsQ n ps = 1 by omega, show ((bsQ n ps + 1 : Nat) : Int) = (bsQ n ps : Int) + 1 by omega] at kd
 have hql : (ps.filter fun x => decide (x ≠ n)).length = ps.length - 1 := by rw [← hdb]; simp; omega
 rw [← hql] at kd
 have kf := deleteB_m rm (by omega) 67 [.cellp [If .u32 n]] (fun b => decide (b.pe = n)) (downT_c n)
 rw [show keepL (fun b : Bnd => decide (b.pe = n)) rm = rm.filter fun b => !decide (b.pe = n) from rfl] at kf
 generalize (rm.filter fun b => !decide (b.pe = n)) = c at *
 generalize (ps.filter fun x => decide (x ≠ n)) = qs at *
 have hk0 : bsQ n ps < 200000 := by omega
 generalize bsQ n ps = k at *
 have hle : (ps.map encW).length = ps.length := List.length_map _
 have hle2 : (rm.map encBn).length = rm.length := List.length_map _
 rw [← hle] at kd
 rw [← hle2] at kf
 refine nK ?_
 refine za ?_
 refine zc ?_
 refine zc ?_
 refine zw ?_
 refine zf ?_
 refine zf ?_
 refine zbb ?_
 refine zc ?_
 refine zc ?_
 refine zj ?_
 refine Run.eff (dd := some 28) rfl rfl (op_call (n := 1) (n' := 1) [1] (fun _ => kd) rfl (Opd.func _) (oS (oT rfl) (oS (oT rfl) (oS (oT rfl) Opds.nil))) rfl rfl (Lent.of rfl rfl wHE8b rfl) rfl rfl rfl rfl rfl) ?_
 refine zw ?_
 refine zf ?_
 refine zf ?_
 refine zcb ?_
 refine zb ?_
 refine nK ?_
 refine Next.trim 1 qs.length rfl ?_
 refine Next.freezeCell 0 0 4 1 rfl rfl rfl rfl (by simp) rfl ?_
 have e1 : ((qs ++ List.replicate (0 + 1) zW).map encW).take qs.length = qs.map encW := by rw [← List.map_take, List.take_left]
 rw [e1]
 refine nK ?_
 refine za ?_
 refine zc ?_
 refine zc ?_
 refine zw ?_
 refine zf ?_
 refine zf ?_
 refine zbb ?_
 refine rpZ 38 rfl (op_makeFuncF (fs := [.cellp [If .u32 n]]) rfl (oS (oT rfl) Opds.nil)) ?_
 refine Run.eff (dd := some 39) rfl rfl (op_call (n := 1) (n' := 1) [2] (fun _ => kf) rfl (Opd.func _) (oS (oT rfl) (oS (oT rfl) Opds.nil)) rfl rfl (Lent.of rfl rfl wHE8b rfl) rfl rfl rfl rfl rfl) ?_
 refine zw ?_
 refine zf ?_
 refine zf ?_
 refine zcb ?_
 refine zb ?_
 refine nK ?_
 refine za ?_
 refine ze ?_
 refine zb ?_
 refine nK ?_
 refine Next.freezeCell 0 0 3 2 rfl rfl rfl rfl (List.length_map _) rfl ?_
 refine Next.weakS [0] [] (by rfl) (keepsN hC _ rfl) (G' := [(4, IV .i64 0)]) (H' := [(0, R7 f0 f1 f2 (VBn c) (VW qs) f5 [])]) wG wHE8a rfl ?_
 exact n_out1 rfl (by rfl) rfl rfl
theorem data_m (ro n : Int) (d : List Int) (f1 f5 : FV) (lc rm : List Bnd) (ps : List Int) (hps : ascP' ps) (hd : ∀ x ∈ d, 0 ≤ x ∧ x < 256) (hdl : d.length ≤ 9223372036854775807) (hla : ∀ b ∈ lc, inr .i64 b.la) (hl : lc.length ≤ 100000) (hn : rm.length ≤ 100000) (hm : ps.length ≤ 100000) : Meets Tryz.prog 40 [.ptr 0 7 0 0, IV .u32 n, .fz (VY d)] 1 [(0, R7 (If .u32 ro) f1 (VBn lc) (VBn rm) (VW ps) f5 [])] (IV .i64 (dataG ro lc rm ps n d).1) [(0, R7 (If .u32 ro) f1 (VBn lc) (VBn (dataG ro lc rm ps n d).2.1) (VW ps) f5 (dataG ro lc rm ps n d).2.2)] 1 := by
 have kb : Pure Tryz.prog 62 [VW ps, If .u32 n] (.tup [If .i64 (bsQ n ps : Nat), Bf (ps.contains n)]) := by
  rw [← hitQ_eq hps]; exact bsearchW_c ps n (by omega)
 have kd := decode_c d hd hdl
 obtain ⟨hok, _⟩ := decode_ok hd
 unfold dataG
 refine Meets.intro Tryz.func40 rfl (Nat.le_of_ble_eq_true rfl) fun C hC => ?_
 simp only [List.map, argEnv, Nat.reduceAdd]
 refine nK ?_
 refine za ?_
 refine ze ?_
 refine zb ?_
 refine nK ?_
 refine za ?_
 refine zc ?_
 refine zw ?_
 refine zf ?_
 refine zf ?_
 refine zbb ?_
 refine zc ?_
 refine rpZ 22 rfl (op_call_pure (fun _ => kb) rfl (Opd.func _) (oS (oT rfl) (oS (oT rfl) Opds.nil))) ?_
 refine zc ?_
 refine zi ?_
 refine zi ?_
 refine zd ?_
 refine zd ?_
 refine zb ?_
 refine nK ?_
 refine za ?_
 refine zc ?_
 refine zbj ?_
 refine zb ?_
 refine nK ?_
 refine n_cond _ rfl (fun hb => ?_) (fun hb => ?_)
 ·rw [if_pos hb]
  refine nK ?_
  refine za ?_
  refine ze ?_
  refine zb ?_
  refine nK ?_
  refine Next.weakS [0] [] (by rfl) (keepsN hC _ rfl) (G' := [(6, IV .i64 6)]) (H' := [(0, R7 (If .u32 ro) f1 (VBn lc) (VBn rm) (VW ps) f5 [])]) wG wHE8a rfl ?_
  exact n_out1 rfl (by rfl) rfl rfl
 rw [if_neg (by rw [hb]; decide)]
 generalize decodeF d = r at *
 obtain ⟨m, e⟩ := r
 dsimp only at hok kd ⊢
 refine nK ?_
 refine za ?_
 refine zc ?_
 refine rpZ 29 rfl (op_call_pure (fun _ => kd) rfl (Opd.func _) (oS (oT rfl) Opds.nil)) ?_
 refine zc ?_
 refine zi ?_
 refine zi ?_
 refine zo ?_
 refine zg ?_
 refine zd ?_
 refine zb ?_
 refine nK ?_
 refine za ?_
 refine zc ?_
 refine zbe ?_
 refine zb ?_
 refine nK ?_
 refine n_cond _ rfl (fun hb => ?_) (fun hb => ?_)
 ·rw [if_pos (by simpa using hb)]
  refine nK ?_
  refine za ?_
  refine zc ?_
  refine zd ?_
  refine zb ?_
  refine nK ?_
  refine Next.weakS [0] [] (by rfl) (keepsN hC _ rfl) (G' := [(6, IV .i64 e)]) (H' := [(0, R7 (If .u32 ro) f1 (VBn lc) (VBn rm) (VW ps) f5 [])]) wG wHE8a rfl ?_
  exact n_out1 rfl (by rfl) rfl rfl
 rw [if_neg (by simpa using hb)]
 have k1 := bind_c rm ⟨m.px, n, m.la⟩ (by omega)
 have k2 := find_c rm m.px n (by omega)
 have k3 := unbind_c rm m.px n (by omega)
 have k4 := find_c lc m.px ro (by omega)
 refine nK ?_
 refine za ?_
 refine zf ?_
 refine zh ?_
 refine zb ?_
 refine nK ?_
 refine za ?_
 refine zba ?_
 refine zd ?_
 refine zb ?_
 refine nK ?_
 refine n_cond _ rfl (fun hb => ?_) (fun hb => ?_)
 ·rw [if_pos (by simpa using hb)]
  refine nK ?_
  refine s_draw mixed ?_
  refine zc ?_
  refine zc ?_
  refine zw ?_
  refine zf ?_
  refine zf ?_
  refine zbb ?_
  refine zf ?_
  refine zbc ?_
  refine zc ?_
  refine zf ?_
  refine zh ?_
  refine zcd ?_
  refine rpZ 51 rfl (op_call_pure (fun _ => k1) rfl (Opd.func _) (oS (oT rfl) (oS (oT rfl) Opds.nil))) ?_
  refine zw ?_
  refine zf ?_
  refine zf ?_
  refine zbr ?_
  refine zq ?_
  refine nK ?_
  refine za ?_
  refine ze ?_
  refine zb ?_
  refine nK ?_
  refine Next.weakS [0] [] (by rfl) (keepsN hC _ rfl) (G' := [(6, IV .i64 0)]) (H' := [(0, R7 (If .u32 ro) f1 (VBn lc) (VBn (bindL rm ⟨m.px, n, m.la⟩)) (VW ps) f5 [])]) wG wHE8a rfl ?_
  exact n_out1 rfl (by rfl) rfl rfl
 rw [if_neg (by simpa using hb)]
 refine nK ?_
 refine za ?_
 refine zba ?_
 refine zd ?_
 refine zb ?_
 refine nK ?_
 refine n_cond _ rfl (fun hb => ?_) (fun hb => ?_)
 ·rw [if_pos (by simpa using hb)]
  generalize findB rm m.px n = q at *
  refine nK ?_
  refine s_draw mixed ?_
  refine zc ?_
  refine zw ?_
  refine zf ?_
  refine zf ?_
  refine zbb ?_
  refine zf ?_
  refine zbc ?_
  refine zc ?_
  refine rpZ 66 rfl (op_call_pure (fun _ => k2) rfl (Opd.func _) (oS (oT rfl) (oS (oT rfl) (oS (oT rfl) Opds.nil)))) ?_
  refine zc ?_
  refine zi ?_
  refine zi ?_
  refine zd ?_
  refine zd ?_
  refine zq ?_
  refine nK ?_
  refine za ?_
  refine zc ?_
  refine zc ?_
  refine zl ?_
  refine zp ?_
  refine zs ?_
  refine zbp ?_
  refine zy ?_
  refine zb ?_
  refine nK ?_
  refine n_cond _ rfl (fun hb => ?_) (fun hb => ?_)
  ·rw [if_pos hb]
   have ks := send_m (If .u32 ro) f1 (VBn lc) (VBn (unbL rm m.px n)) (VW ps) f5 [] 3 m.la m.px [n] ⟨by simp [inr], hok.px, hok.la⟩ (by simp)
   refine nK ?_
   refine s_draw mixed ?_
   refine zc ?_
   refine zc ?_
   refine zw ?_
   refine zf ?_
   refine zf ?_
   refine zbb ?_
   refine zf ?_
   refine zbc ?_
   refine zc ?_
   refine rpZ 86 rfl (op_call_pure (fun _ => k3) rfl (Opd.func _) (oS (oT rfl) (oS (oT rfl) (oS (oT rfl) Opds.nil)))) ?_
   refine zc ?_
   refine zi ?_
   refine zi ?_
   refine zw ?_
   refine zf ?_
   refine zf ?_
   refine zbr ?_
   refine zq ?_
   refine nK ?_
   refine za ?_
   refine zc ?_
   refine zf ?_
   refine zbc ?_
   refine zf ?_
   refine zh ?_
   refine zc ?_
   refine zqqz ?_
   refine Run.eff (dd := some 99) rfl rfl (op_call (n := 1) (n' := 1) [0] (fun _ => ks) rfl (Opd.func _) (oS (oT rfl) (oS oC (oS (oT rfl) (oS (oT rfl) (oS (oT rfl) Opds.nil))))) rfl rfl (Lent.of rfl rfl wHE8b rfl) rfl rfl rfl rfl rfl) ?_
   refine zb ?_
   refine nK ?_
   refine za ?_
   refine ze ?_
   refine zb ?_
   refine nK ?_
   refine Next.weakS [0] [] (by rfl) (keepsN hC _ rfl) (G' := [(6, IV .i64 0)]) (H' := [(0, R7 (If .u32 ro) f1 (VBn lc) (VBn (unbL rm m.px n)) (VW ps) f5 [msgS n 3 m.px m.la])]) wG wHE8a rfl ?_
   exact n_out1 rfl (by rfl) rfl rfl
  rw [if_neg (by rw [hb]; decide)]
  refine nK ?_
  refine za ?_
  refine ze ?_
  refine zb ?_
  refine nK ?_
  refine Next.weakS [0] [] (by rfl) (keepsN hC _ rfl) (G' := [(6, IV .i64 0)]) (H' := [(0, R7 (If .u32 ro) f1 (VBn lc) (VBn rm) (VW ps) f5 [])]) wG wHE8a rfl ?_
  exact n_out1 rfl (by rfl) rfl rfl
 rw [if_neg (by simpa using hb)]
 refine nK ?_
 refine za ?_
 refine zba ?_
 refine zd ?_
 refine zb ?_
 refine nK ?_
 refine n_cond _ rfl (fun hb => ?_) (fun hb => ?_)
 ·rw [if_pos (by simpa using hb)]
  have hfi : inr .i64 ((findB lc m.px ro).getD 0) := by
   unfold findB
   cases hf : lc.find? (isBn m.px ro) with
   | none => simp [inr]
   | some b => exact hla b (List.mem_of_find?_eq_some hf)
  generalize findB lc m.px ro = q at *
  refine nK ?_
  refine s_draw mixed ?_
  refine zc ?_
  refine zw ?_
  refine zf ?_
  refine zf ?_
  refine zbb ?_
  refine zf ?_
  refine zbc ?_
  refine zc ?_
  refine zw ?_
  refine zf ?_
  refine zf ?_
  refine zbb ?_
  refine rpZ 115 rfl (op_call_pure (fun _ => k4) rfl (Opd.func _) (oS (oT rfl) (oS (oT rfl) (oS (oT rfl) Opds.nil)))) ?_
  refine zc ?_
  refine zi ?_
  refine zi ?_
  refine zd ?_
  refine zd ?_
  refine zq ?_
  refine nK ?_
  refine za ?_
  refine zc ?_
  refine zb ?_
  refine nK ?_
  refine n_cond _ rfl (fun hb => ?_) (fun hb => ?_)
  ·rw [if_pos hb]
   have ks := send_m (If .u32 ro) f1 (VBn lc) (VBn rm) (VW ps) f5 [] 1 (q.getD 0) m.px [n] ⟨by simp [inr], hok.px, hfi⟩ (by simp)
   refine nK ?_
   refine za ?_
   refine zc ?_
   refine zf ?_
   refine zbc ?_
   refine zc ?_
   refine zc ?_
   refine zqqz ?_
   refine Run.eff (dd := some 125) rfl rfl (op_call (n := 1) (n' := 1) [0] (fun _ => ks) rfl (Opd.func _) (oS (oT rfl) (oS oC (oS (oT rfl) (oS (oT rfl) (oS (oT rfl) Opds.nil))))) rfl rfl (Lent.of rfl rfl wHE8b rfl) rfl rfl rfl rfl rfl) ?_
   refine zb ?_
   refine nK ?_
   refine za ?_
   refine ze ?_
   refine zb ?_
   refine nK ?_
   refine Next.weakS [0] [] (by rfl) (keepsN hC _ rfl) (G' := [(6, IV .i64 0)]) (H' := [(0, R7 (If .u32 ro) f1 (VBn lc) (VBn rm) (VW ps) f5 [msgS n 1 m.px (q.getD 0)])]) wG wHE8a rfl ?_
   exact n_out1 rfl (by rfl) rfl rfl
  rw [if_neg (by rw [hb]; decide)]
  refine nK ?_
  refine za ?_
  refine ze ?_
  refine zb ?_
  refine nK ?_
  refine Next.weakS [0] [] (by rfl) (keepsN hC _ rfl) (G' := [(6, IV .i64 0)]) (H' := [(0, R7 (If .u32 ro) f1 (VBn lc) (VBn rm) (VW ps) f5 [])]) wG wHE8a rfl ?_
  exact n_out1 rfl (by rfl) rfl rfl
 rw [if_neg (by simpa using hb)]
 refine nK ?_
 refine za ?_
 refine ze ?_
 refine zb ?_
 refine nK ?_
 refine Next.weakS [0] [] (by rfl) (keepsN hC _ rfl) (G' := [(6, IV .i64 0)]) (H' := [(0, R7 (If .u32 ro) f1 (VBn lc) (VBn rm) (VW ps) f5 [])]) wG wHE8a rfl ?_
 exact n_out1 rfl (by rfl) rfl rfl
end Go.Proofs.YtkofbemgpeagbaaGreat
/- Steps of the loops over routes and bindings; sizes. No program in sight. -/
namespace Go.Pl
open Go Go.RT
set_option linter.all false
theorem asc_step {l : List Int} {i : Nat} (h : i < l.length) : ascI (prvG l i) (l.drop i) = if leI (prvG l i) l[i] = true then 16 else ascI (prvG l (i + 1)) (l.drop (i + 1)) := by
  rw [List.drop_eq_getElem_cons h, prvG_succ h]; rfl
theorem asc_one (l : List Int) : ascI (prvG l 1) (l.drop 1) = ascI none l := by
  cases l with
  | nil => rfl
  | cons x t => rfl
theorem rts_step (r : Int) {l : List Fec} {i : Nat} (h : i < l.length) : rtsE r (prvG l i) (l.drop i) = if (!validB l[i].px) = true then 1 else if badX (prvG l i) l[i] = true then 16 else if hopsE r l[i].hs ≠ 0 then hopsE r l[i].hs else rtsE r (prvG l (i + 1)) (l.drop (i + 1)) := by
  rw [List.drop_eq_getElem_cons h, prvG_succ h]; rfl
def zFe : Fec := ⟨⟨0, 0⟩, false, []⟩
structure okFe (x : Fec) : Prop where
  px : x.px.ok
  hs : x.hs.length ≤ 9223372036854775807
structure okFs (x : Fec) : Prop where
  px : x.px.ok
  hs : x.hs.length ≤ 64
theorem hopsE_len {r : Int} {l : List Int} (h : hopsE r l = 0) : l.length ≤ 64 := by
  unfold hopsE at h
  split at h
  · cases h
  · omega
theorem rts_asc {r : Int} : ∀ {l : List Fec} {p : Option Fec}, rtsE r p l = 0 → ascX l ∧ (∀ q, p = some q → ∀ x ∈ l, ltPf q.px x.px) ∧ (∀ x ∈ l, validB x.px = true ∧ hopsE r x.hs = 0)
  | [], p, _ => ⟨List.Pairwise.nil, fun _ _ _ h => (by cases h), fun _ h => (by cases h)⟩
  | x :: t, p, h => by
    simp only [rtsE] at h
    split at h
    · cases h
    · next h1 =>
      split at h
      · cases h
      · next h2 =>
        split at h
        · next h3 => exact absurd h h3
        · next h3 =>
          obtain ⟨k1, k2, k3⟩ := rts_asc h
          have hx := k2 x rfl
          refine ⟨List.pairwise_cons.2 ⟨hx, k1⟩, fun q hq y hy => ?_, fun y hy => ?_⟩
          · subst hq
            have hqx : ltPf q.px x.px := by
              rw [← cmpP_neg]; simp [badX] at h2; exact h2
            rcases List.mem_cons.1 hy with rfl | hy
            · exact hqx
            · exact hqx.trans (hx y hy)
          · rcases List.mem_cons.1 hy with rfl | hy
            · exact ⟨by simpa using h1, by simpa using h3⟩
            · exact k3 y hy
theorem routesE_ok {r : Int} {l : List Fec} (h : routesE r l = 0) : ascX l ∧ l.length ≤ 2000 ∧ ∀ x ∈ l, validB x.px = true ∧ hopsE r x.hs = 0 := by
  unfold routesE at h
  split at h
  · cases h
  · next k => obtain ⟨k1, _, k3⟩ := rts_asc h; exact ⟨k1, by omega, k3⟩
/-! sizes -/
theorem giveF_len (l : List Rg) (n : Int) : (giveF l n).1.length ≤ l.length + 1 := by
  unfold giveF
  split
  · simp
  · split
    · simp
    · split
      · simp
      · exact giveL_len l n
theorem takeF_len (l : List Rg) : (takeF l).2.1.length ≤ l.length := by
  unfold takeF
  split
  · simp
  · cases l with
    | nil => simp
    | cons r t => simp only [takeL]; split <;> simp
theorem takeF_ok {l : List Rg} (h : (takeF l).2.2 = 0) : 16 ≤ (takeF l).1 ∧ (takeF l).1 ≤ 1048575 := by
  unfold takeF at h ⊢
  by_cases k : lblE l ≠ 0
  · rw [if_pos k] at h; exact absurd h k
  · rw [if_neg k] at h ⊢
    have hv := (lblE_iff l).1 (by simpa using k)
    cases l with
    | nil => cases h
    | cons r t => have := hv.hd.1.lo; have := hv.hd.1.le; have := hv.hd.1.hi; exact ⟨by omega, by show r.f ≤ _; omega⟩
def pdG (ro : Int) (ps : List Int) (l : List Fec) (fr : List Rg) (lc : List Bnd) (i : Nat) : DSt := (lc.take i).foldl (pdS ro ps l) (fr, lc, [])
theorem pdG_succ (ro : Int) (ps : List Int) (l : List Fec) (fr : List Rg) {lc : List Bnd} {i : Nat} (h : i < lc.length) : pdG ro ps l fr lc (i + 1) = pdS ro ps l (pdG ro ps l fr lc i) lc[i] := by
  unfold pdG; rw [List.take_succ_eq_append_getElem h, List.foldl_append]; rfl
theorem pdG_len (ro : Int) (ps : List Int) (l : List Fec) (fr : List Rg) (lc : List Bnd) : ∀ i, i ≤ lc.length → (pdG ro ps l fr lc i).1.length ≤ fr.length + i ∧ (pdG ro ps l fr lc i).2.1.length ≤ lc.length ∧ (pdG ro ps l fr lc i).2.2.length ≤ i * ps.length := by
  intro i
  induction i with
  | zero => intro _; simp [pdG]
  | succ i ih =>
    intro hi
    obtain ⟨h1, h2, h3⟩ := ih (by omega)
    rw [pdG_succ ro ps l fr (by omega), Nat.succ_mul]
    unfold pdS
    split
    · exact ⟨by omega, h2, by omega⟩
    · refine ⟨?_, Nat.le_trans (unbL_len _ _ _) h2, by simp; omega⟩
      dsimp only
      have := giveF_len (pdG ro ps l fr lc i).1 lc[i].la
      split
      · split <;> omega
      · omega
def bdG (ro : Int) (ps : List Int) (l : List Fec) (d : DSt) (i : Nat) : DSt := (l.take i).foldl (bindS ro ps) d
theorem bdG_succ (ro : Int) (ps : List Int) {l : List Fec} (d : DSt) {i : Nat} (h : i < l.length) : bdG ro ps l d (i + 1) = bindS ro ps (bdG ro ps l d i) l[i] := by
  unfold bdG; rw [List.take_succ_eq_append_getElem h, List.foldl_append]; rfl
theorem bindS_len (ro : Int) (ps : List Int) (s : DSt) (x : Fec) : (bindS ro ps s x).1.length ≤ s.1.length ∧ (bindS ro ps s x).2.1.length ≤ s.2.1.length + 1 ∧ (bindS ro ps s x).2.2.length ≤ s.2.2.length + ps.length := by
  unfold bindS
  split
  · exact ⟨by omega, by omega, by omega⟩
  · split
    · exact ⟨Nat.le_refl _, bindL_len _ _, by simp⟩
    · split
      · exact ⟨by omega, by omega, by omega⟩
      · exact ⟨takeF_len _, bindL_len _ _, by simp⟩
theorem bdG_len (ro : Int) (ps : List Int) (l : List Fec) (d : DSt) : ∀ i, i ≤ l.length → (bdG ro ps l d i).1.length ≤ d.1.length ∧ (bdG ro ps l d i).2.1.length ≤ d.2.1.length + i ∧ (bdG ro ps l d i).2.2.length ≤ d.2.2.length + i * ps.length := by
  intro i
  induction i with
  | zero => intro _; simp [bdG]
  | succ i ih =>
    intro hi
    obtain ⟨h1, h2, h3⟩ := ih (by omega)
    obtain ⟨k1, k2, k3⟩ := bindS_len ro ps (bdG ro ps l d i) l[i]
    rw [bdG_succ ro ps d (by omega), Nat.succ_mul]
    exact ⟨by omega, by omega, by omega⟩
def routesG (ro : Int) (fr : List Rg) (lc : List Bnd) (ps : List Int) (rt l : List Fec) : Int × DSt × List Fec :=
  if routesE ro l ≠ 0 then (routesE ro l, (fr, lc, []), rt) else (0, bdG ro ps l (pdG ro ps l fr lc lc.length) l.length, l)
theorem okB_eq (l : List Fec) (b : Bnd) : okB l b = ((routeF l b.px).isSome && decide (((routeF l b.px).getD zFe).lo = decide (b.la = 3))) := by
  unfold okB
  cases routeF l b.px <;> rfl
end Go.Pl
