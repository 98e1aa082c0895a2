/- A part of the proof: RT42, RT43, RT44, RT45, TabJ, PL, S0, G0, RP1, GP1, GP2, SRT, SRI0, GP3, GP4, RP2, J1, S1, S2, S3, J2, JP1, J3, RP3, RP4, RP5, RP6, JP2, J5. -/
import Derived.Test.YtfkcbglnadjnnaaZB
import Derived.Laws.BytesString
import Derived.Test.YtfkcbglnadjnnaaChecked
import Derived.Eval
import Derived.Shelf.SlSortCmp.NoneTotal
set_option linter.all false
/- The statement of a loop over a function. -/
namespace Go.RT
open Go
set_option linter.all false
theorem Mem.restart {C : Cx} {H H2 : Hp} {nx : Nat} {S : Nat → Prop} {m : Ids} {w : World} {i D : Nat} {x : Obj} {d : List Deferred} (hm : Mem C H nx S m w) (hi : hlook H i = some (.raw x)) (hD : m i = some (some D))
    (hsub : ∀ k o, hlook H2 k = some o → hlook H k = some o ∧ k ≠ i) : Mem ⟨w, fun b => (C.w0.heap.size ≤ b ∨ C.own0 b) ∧ b ≠ D, S, C.m0, C.n0, d⟩ H2 nx S m w := by
  refine ⟨⟨rfl, Nat.le_refl _⟩, rfl, rfl, fun _ _ => rfl, Nat.le_refl _, fun _ _ _ => rfl, ⟨fun _ h => h, fun _ _ => rfl, hm.le.ids, fun _ _ h => h⟩, fun b h => .inl h, hm.n0, fun k o h => hm.objs k o (hsub k o h).1, fun k o b h hb => ?_,
    fun k1 k2 o1 o2 b h1 h2 => hm.inj k1 k2 o1 o2 b (hsub _ _ h1).1 (hsub _ _ h2).1, hm.stab, hm.fresh, ?_⟩
  · obtain ⟨h1, h2⟩ := hsub k o h
    obtain ⟨k1, k2, k3⟩ := hm.blk k o b h1 hb
    exact ⟨k1, k2, .inr ⟨k3, fun e => by subst e; exact h2 (hm.inj k i _ _ _ h1 hi hb hD)⟩⟩
  · obtain ⟨ib, hn⟩ := hm.nst
    refine ⟨_, hn.keep (fun i => i) (fun id sz i j isz irows hO => ⟨hO.of fun o h => (hsub _ _ h).1, rfl⟩) (fun _ _ _ _ _ _ _ _ _ _ _ _ _ _ h => h) (fun _ h => h) (fun _ _ => rfl) (fun id sz i j isz irows b2 c2 e2 u hO k1 k2 k3 => ⟨c2, e2, k2, k3⟩) (fun id sz r j isz irows b' hO hb2 h1 h2 h3 h4 => ⟨rfl, h1, h2, .inr ⟨h3, fun e => h4 _ _ hi (e ▸ hD)⟩, fun id2 o2 h5 => h4 _ _ (hsub _ _ h5).1⟩)⟩
def tmpsP (G : Env) (N : Nat) : List PV := (List.range N).map fun i => (look G i).getD .any
section
variable {P : Program} {C : Cx} {N : Nat} {G : Env} {H : Hp} {nx : Nat} {Q : Exit → Act → World → Prop}
/-- a slot holds a closure -/
inductive CloAt (G : Env) (t : Tmp) (f : FuncId) : List PV → Prop where
  | own (caps : List PV) : look G t = some (.clo f [] caps) → CloAt G t f caps
  | fz (fs : List FV) : look G t = some (.fz (.clo f fs)) → CloAt G t f (fs.map PV.fz)
theorem CloAt.val {t : Tmp} {f : FuncId} {caps : List PV} (h : CloAt G t f caps) {S : Nat → Prop} {m : Ids} {w : World} {a : Act} (hsl : ∀ t q, look G t = some q → RepAt w S m a t q) : ∃ cs : Array Value, a.eval (.tmp t) = .func (.func f) #[] cs ∧ cs.size = caps.length ∧ ∀ (i : Nat) (c : Value) (p : PV), cs[i]? = some c → caps[i]? = some p → Rep w S m c p := by
  cases h with
  | own _ hl =>
    obtain ⟨v, hv, hr⟩ := hsl t _ hl
    cases hr with
    | clo _ as0 cs _ _ q1 q2 q3 q4 =>
      have has : as0 = #[] := by simpa using q1
      subst has
      exact ⟨cs, by simp [Act.eval, hv], q2, q4⟩
  | fz fs hl =>
    obtain ⟨v, hv, hr⟩ := hsl t _ hl
    cases hr with
    | fz _ _ hr =>
      cases hr with
      | clo _ cs _ q2 q4 =>
        refine ⟨cs, by simp [Act.eval, hv], by simpa using q2, fun i c p hc hp => ?_⟩
        rw [List.getElem?_map] at hp
        obtain ⟨q, hq, rfl⟩ := Option.map_eq_some_iff.1 hp
        exact .fz _ _ (q4 i c q hc hq)
theorem n_range {t : Tmp} {p : Nat} {assign body : Code} {f : FuncId} [hfb : FnB P f] {caps capsI tps : List PV} {n n' r0 : Nat} {Hin : Loop → Hp} {Hm : Hp} {res : PV} (L : List Nat) (j : Option Code) {H2 : Hp} {n2 : Nat}
    (hM : ∀ rc : Loop, rc.state = .ready → rc.pending = none → rc.params = #[p] → rc.assign = assign → rc.body = body → rc.tmps.size = N → Meets P f (.yl r0 rc.tmps tps :: capsI) n (Hin rc) res ((r0, some (.raw (.loop { rc with state := if j.isNone then .ready else .done, pending := j }))) :: Hm) n')
    (hg : CloAt G t f caps) (hr0 : renI L r0 = nx + 1) (htps : tps.map (renP L) = tmpsP G N) (hcaps : capsI.map (renP L) = caps) (hb0 : Nat.blt r0 n = true) (hlt : ltPs n tps = true) (hltc : capsI.all (ltP n) = true)
    (hL : ∀ rc, Lent L n ((nx + 1, some (.raw (.loop rc))) :: (nx, some (.raw (.deferred (some [])))) :: H) (Hin rc)) (hnx : L.contains nx = false) (hnn : Nat.ble n n' = true) (hHo : Hm.all (fun x => Nat.blt x.1 n') = true)
    (hH : (nx, none) :: (nx + 1, none) :: callH (L ++ List.range' (nx + 2) (n' - n)) Hm L H = H2) (hn2 : nx + 2 + (n' - n) = n2)
    (hpost : ∀ C' D, After C C' D → Next C' N G H2 n2 (match j with | none => Q .normal | some c => c.wpM none P Q)) : Next C N G H nx ((Code.rangeFunc (.tmp t) #[p] assign body).wpM none P Q) := fun a w hR => by
  subst hH; subst hn2
  obtain ⟨S, m, hm, hsl⟩ := hR.mem
  refine wpIn_rangeFunc fun fn _ => ?_
  obtain ⟨cs, hev, q2, q4⟩ := hg.val hsl
  obtain ⟨rc, hrc⟩ : ∃ rc : Loop, rc = { state := .ready, pending := none, fn := fn, tmps := a.tmps, params := #[p], assign := assign, body := body, defers := w.heap.size } := ⟨_, rfl⟩
  obtain ⟨a1, a2⟩ := hm.newRaw (.deferred (some []))
  obtain ⟨b1, b2⟩ := a1.newRaw (.loop rc)
  have hsz : (w.alloc (.deferred (some []))).heap.size = w.heap.size + 1 := by simp
  rw [hsz] at b1 b2
  have hle := a2.trans b2
  obtain ⟨fnn, k1, k2, k3⟩ := hfb.h
  refine ⟨w.heap.size + 1, [{ target := .collected w.heap.size, args := #[] }], (w.alloc (.deferred (some []))).alloc (.loop rc), { target := .fn (.func f) cs, args := #[.func (.yield (w.heap.size + 1)) #[] #[]] }, (w.alloc (.deferred (some []))).alloc (.loop rc), f, (Value.func (.yield (w.heap.size + 1)) #[] #[] :: cs.toList).toArray, (w.alloc (.deferred (some []))).alloc (.loop rc), ?_, ?_, fun _ _ => trivial, ?_, fun h => by simp [FM] at h, ?_⟩
  · exact (run_enterLoop_outer fn a.tmps #[p] assign body).trans (by rw [← hrc])
  · simp only [resolve, hev]
    simp [Deferred.ofValue, Act.eval]
  · have h4 : ¬ (fnn.body = none) := by intro e; rw [e] at k3; cases k3
    have h5 : ¬ (fnn.name = "runtime.NumGoroutine") := by simpa using k2
    simp [invoke, callFunc, k1, h4, h5]
  · have hrl : r0 < L.length := by rw [(hL rc).len]; exact blt_of hb0
    have hc := call_core (P := P) b1 (hM rc (by rw [hrc]) (by rw [hrc]) (by rw [hrc]) (by rw [hrc]) (by rw [hrc]) (by rw [hrc]; exact hR.size)) (hL rc) (Nat.le_of_ble_eq_true hnn) (fun x hx => by
        rcases List.mem_cons.1 hx with rfl | hx
        · exact Nat.lt_of_lt_of_le (blt_of hb0) (Nat.le_of_ble_eq_true hnn)
        · exact blt_of (List.all_eq_true.1 hHo x hx)) (vs := Value.func (.yield (w.heap.size + 1)) #[] #[] :: cs.toList) (by
      have := congrArg List.length hcaps
      simp at this; simp [this, q2]) (fun i v q h1 h2 => by
      cases i with
      | zero =>
        simp at h1 h2; subst h1; subst h2
        refine ⟨?_, by simp only [ltP, Bool.and_eq_true]; exact ⟨hb0, hlt⟩⟩
        have ht : rc.tmps = a.tmps := by rw [hrc]
        simp only [renP, renPs_eq, hr0, htps, ht]
        refine .yl _ _ _ _ (setM_self _ _ _) (by simp [tmpsP, hR.size]) fun i c q hi hq => ?_
        simp only [tmpsP, List.getElem?_map] at hq
        obtain ⟨i', hi', rfl⟩ := Option.map_eq_some_iff.1 hq
        have : i' = i := by
          rw [List.getElem?_range (by have := (List.getElem?_eq_some_iff.1 hi').1; simpa using this)] at hi'
          simpa using hi'.symm
        subst this
        cases hlk : look G i' with
        | none => exact .any _
        | some q' =>
          obtain ⟨v, hv, hr⟩ := hsl i' q' hlk
          rw [hv] at hi; cases hi
          exact hr.mono hle
      | succ i =>
        have h1' : cs[i]? = some v := by simpa using h1
        have h2' : capsI[i]? = some q := by simpa using h2
        refine ⟨(q4 i v _ h1' (by rw [← hcaps, List.getElem?_map, h2']; rfl)).mono hle, List.all_eq_true.1 hltc q (List.mem_of_getElem? h2')⟩)
    refine callsIn_FM.2 (hc.mono fun e w3 ⟨v, S', m', he, hm3, hle3, _⟩ => ?_)
    subst he
    have hr0' : renI (L ++ List.range' (nx + 1 + 1) (n' - n)) r0 = nx + 1 := by
      rw [← hr0]; simp only [renI, List.getD_eq_getElem?_getD]; rw [List.getElem?_append_left hrl]
    -- the record
    have hlk1 : hlook (callH (L ++ List.range' (nx + 1 + 1) (n' - n)) ((r0, some (.raw (.loop { rc with state := if j.isNone then .ready else .done, pending := j }))) :: Hm) L ((nx + 1, some (.raw (.loop rc))) :: (nx, some (.raw (.deferred (some [])))) :: H)) (nx + 1) = some (.raw (.loop { rc with state := if j.isNone then .ready else .done, pending := j })) := by
      simp only [callH, List.map_cons, renE, List.cons_append, hlook_cons, hr0', if_true, Option.map_some, renO]
    have hid1 : m' (nx + 1) = some (some (w.heap.size + 1)) := hle3.ids _ _ (setM_self _ _ _)
    have hidD : m' nx = some (some w.heap.size) := hle3.ids _ _ (by rw [setM_other (by omega)]; exact setM_self _ _ _)
    obtain ⟨b, h1, h2⟩ := hm3.raw hlk1
    rw [hid1] at h1; cases h1
    have hend := run_endLoop (P := P) h2 (by cases j <;> simp)
    obtain ⟨c1, c2⟩ := hm3.rawSet (.loop { rc with state := .exhausted, pending := j }) hlk1 hid1 rfl rfl
    -- the mark's block
    have hkey : ∀ k, k ∈ (Hm.map (renE (L ++ List.range' (nx + 1 + 1) (n' - n)))).map (·.1) → k ≠ nx := fun k hk e => by
      subst e
      simp only [List.map_map, List.mem_map] at hk
      obtain ⟨x, hx, he⟩ := hk
      have hxl := blt_of (List.all_eq_true.1 hHo x hx)
      have hnn' := Nat.le_of_ble_eq_true hnn
      simp only [Function.comp, renE, renI, List.getD_eq_getElem?_getD, List.getElem?_append] at he
      split at he
      · rename_i hlt'
        rw [List.getElem?_eq_getElem hlt'] at he
        simp only [Option.getD_some] at he
        have : L.contains k = true := by rw [List.contains_iff_mem, ← he]; exact List.getElem_mem hlt'
        rw [hnx] at this; cases this
      · rename_i hge
        rw [List.getElem?_range' (by rw [(hL rc).len] at hge ⊢; omega)] at he
        simp at he; omega
    have hkill : ∀ k, k ∈ (L.map fun i => (i, (none : Option Ob))).map (·.1) → k ≠ nx := fun k hk e => by
      subst e
      have hk2 : k ∈ L := by simpa using hk
      have : L.contains k = true := List.contains_iff_mem.2 hk2
      rw [hnx] at this; cases this
    have hlkD : hlook ((nx + 1, some (.raw (.loop { rc with state := .exhausted, pending := j }))) :: callH (L ++ List.range' (nx + 1 + 1) (n' - n)) ((r0, some (.raw (.loop { rc with state := if j.isNone then .ready else .done, pending := j }))) :: Hm) L ((nx + 1, some (.raw (.loop rc))) :: (nx, some (.raw (.deferred (some [])))) :: H)) nx = some (.raw (.deferred (some []))) := by
      simp only [callH, List.map_cons, renE, List.cons_append, hlook_cons, hr0']
      rw [if_neg (by omega), if_neg (by omega), hlook_append, if_neg, hlook_cons, if_neg (by omega), hlook_cons, if_pos rfl]
      intro hk
      rw [List.map_append, List.mem_append] at hk
      rcases hk with hk | hk
      · exact hkey nx hk rfl
      · exact hkill nx hk rfl
    have hsub : ∀ k o, hlook ((nx, none) :: (nx + 1, none) :: callH (L ++ List.range' (nx + 2) (n' - n)) Hm L H) k = some o → hlook ((nx + 1, some (.raw (.loop { rc with state := .exhausted, pending := j }))) :: callH (L ++ List.range' (nx + 1 + 1) (n' - n)) ((r0, some (.raw (.loop { rc with state := if j.isNone then .ready else .done, pending := j }))) :: Hm) L ((nx + 1, some (.raw (.loop rc))) :: (nx, some (.raw (.deferred (some [])))) :: H)) k = some o ∧ k ≠ nx := fun k o hk => by
      rw [hlook_cons] at hk
      by_cases e1 : nx = k
      · rw [if_pos e1] at hk; cases hk
      · rw [if_neg e1, hlook_cons] at hk
        by_cases e2 : nx + 1 = k
        · rw [if_pos e2] at hk; cases hk
        · rw [if_neg e2] at hk
          refine ⟨?_, fun e => e1 e.symm⟩
          rw [hlook_cons, if_neg e2]
          simp only [callH, List.map_cons, List.cons_append] at hk ⊢
          rw [show renE (L ++ List.range' (nx + 1 + 1) (n' - n)) (r0, some (Ob.raw (.loop { rc with state := if j.isNone then .ready else .done, pending := j }))) = (nx + 1, some (.raw (.loop { rc with state := if j.isNone then .ready else .done, pending := j }))) by simp only [renE, hr0', Option.map_some, renO], hlook_cons, if_neg e2]
          rw [hlook_append] at hk ⊢
          split at hk
          · rename_i hmem; rw [if_pos hmem]; exact hk
          · rename_i hmem; rw [if_neg hmem, hlook_cons, if_neg e2, hlook_cons, if_neg e1]; exact hk
    obtain ⟨bD, d1, d2⟩ := c1.raw hlkD
    rw [hidD] at d1; cases d1
    have hmem := c1.restart (d := { target := .collected w.heap.size, args := #[] } :: C.df) hlkD hidD hsub
    have hA : After C ⟨_, fun b => (C.w0.heap.size ≤ b ∨ C.own0 b) ∧ b ≠ w.heap.size, S', C.m0, C.n0, { target := .collected w.heap.size, args := #[] } :: C.df⟩ w.heap.size :=
      ⟨rfl, rfl, rfl, fun b => Iff.rfl, ⟨_, _, _, c1⟩, d2, (c1.blk _ _ _ hlkD hidD).1, hm.size⟩
    have hfin := hpost _ _ hA { a with defers := [{ target := .collected w.heap.size, args := #[] }] ++ a.defers } _ ⟨by rw [hR.defers]; rfl, hR.size, S', m', hmem, fun t q hq => (hsl t q hq).mono ((hle.trans hle3).trans c2)⟩
    refine ⟨j, _, hend, ?_⟩
    cases j with
    | none => exact hfin
    | some c => exact hfin
/-- what is skipped -/
theorem op_never {o : Oper} {g : Bool} {p : PV} (h : g = false) : ∀ H nx, OpS P o g G H nx p H nx := fun H nx => ⟨fun C S m a w hm hg => by rw [h] at hg; cases hg⟩
theorem Mem.keepH {S : Nat → Prop} {m : Ids} {w : World} (hm : Mem C H nx S m w) {H' : Hp} (hH : ∀ i o, hlook H' i = some o → hlook H i = some o) : Mem C H' nx S m w :=
  hm.step (Le.refl _ _ _) ⟨rfl, Nat.le_refl _⟩ rfl rfl (fun _ _ => rfl) (Nat.le_refl _) (fun _ _ _ => rfl) (fun _ h => .inl h) (fun i o ho => hm.objs i o (hH i o ho)) (fun i o b ho => hm.blk i o b (hH i o ho))
    (fun i j o o' b h1 h2 => hm.inj i j o o' b (hH _ _ h1) (hH _ _ h2)) hm.stab hm.fresh (hm.nkeep (Le.refl _ _ _) (Nat.le_refl _) (fun _ _ _ _ _ _ h => h.of fun o h => hH _ _ h) (fun _ _ _ _ _ _ _ c e _ _ _ k2 k3 => ⟨c, e, k2, k3⟩) (fun b' _ h2 h3 => ⟨rfl, h2, fun id2 o2 h => h3 _ _ (hH _ _ h)⟩))
theorem MeetsD.keepH {D : Array Value → World → (Ending → World → Prop) → Prop} (hD : ∀ args w R R', D args w R → (∀ e w', R e w' → R' e w') → D args w R') {args : List PV} {n n' : Nat} {Hin Hout Hout' : Hp} {res : PV} (h : MeetsD D args n Hin res Hout n') (hH : ∀ i o, hlook Hout' i = some o → hlook Hout i = some o) : MeetsD D args n Hin res Hout' n' :=
  ⟨fun C vs h1 h2 h3 h4 => hD _ _ _ _ (h.run C vs h1 h2 h3 h4) fun e w' ⟨v, S', m', k1, k2, k3⟩ => ⟨v, S', m', k1, k2.keepH hH, k3⟩⟩
theorem Meets.keepH {f : FuncId} {args : List PV} {n n' : Nat} {Hin Hout Hout' : Hp} {res : PV} (h : Meets P f args n Hin res Hout n') (hH : ∀ i o, hlook Hout' i = some o → hlook Hout i = some o) : Meets P f args n Hin res Hout' n' :=
  ⟨fun C vs h1 h2 h3 h4 => Calls.mono (h.run C vs h1 h2 h3 h4) fun e w' ⟨v, S', m', k1, k2, k3⟩ => ⟨v, S', m', k1, k2.keepH hH, k3⟩⟩
/-- the record behind a round -/
def endR (rc : Loop) (j : Option Code) : Loop := { rc with state := if j.isNone then .ready else .done, pending := j }
theorem endR_none {rc : Loop} (h1 : rc.state = .ready) (h2 : rc.pending = none) : endR rc none = rc := by
  cases rc; simp only at h1 h2; subst h1; subst h2; rfl
theorem tGt {g : Bool} (h : g = true := by first | rfl | decide | simp) : g = true := h
end
end Go.RT
/- '==' on structs that hold structs of numbers. -/
namespace Go.RT
open Go
set_option linter.all false
inductive Cmp (P : Program) : List Field → Nat → List FV → List FV → Prop where
  | nil (k : Nat) : Cmp P [] k [] []
  | int (f : Field) (r : List Field) (k : Nat) (kd kk : IntKind) (u v : Int) (a b : List FV) : (f.name != "_") = true → f.offset = k → P.underlying f.type = some (.int kk) → Cmp P r (k + 1) a b → Cmp P (f :: r) k (.lit (.int kd u) :: a) (.lit (.int kd v) :: b)
  | bool (f : Field) (r : List Field) (k : Nat) (u v : Bool) (a b : List FV) : (f.name != "_") = true → f.offset = k → P.underlying f.type = some .bool → Cmp P r (k + 1) a b → Cmp P (f :: r) k (.lit (.bool u) :: a) (.lit (.bool v) :: b)
  | str (f : Field) (r : List Field) (k n : Nat) (c d a b : List FV) : (f.name != "_") = true → f.offset = k → EqS P f.type n → (P.info? f.type).isSome = true → P.cellsOf f.type = n → c.length = n → d.length = n → fitFs P (P.fieldsOf f.type).toList c d = true → Cmp P r (k + n) a b → Cmp P (f :: r) k (c ++ a) (d ++ b)
section
variable {P : Program} {o : Oper} {g : Bool} {G : Env} {x y : Operand} {t t' : TypeId}
end
end Go.RT
/- The engine, part 44: a nil slice with its capacity told. -/
namespace Go.RT
open Go
set_option linter.all false
variable {G : Env} {H : Hp} {nx : Nat}
end Go.RT
/- The engine, part 45: strings of bytes. -/
namespace Go.RT
open Go
set_option linter.all false
def bStr (l : List Int) : ByteArray := l.foldl (fun r n => r.push (UInt8.ofNat n.toNat)) ByteArray.empty
abbrev encY (n : Int) : List FV := [If .u8 n]
abbrev SV (s : ByteArray) : PV := .fz (.lit (.string s))
section
variable {P : Program} {o : Oper} {g : Bool} {G : Env} {x y : Operand} {t t' : TypeId}
/-- the string of a slice of bytes -/
theorem op_bstr {e : TypeId} {l : List Int} [hd : TyD P t (.slice e)] [he : TyD P e (.int .u8)] [h2 : TyD P t' .string] (ho : o.op = .convert t t' x) (hx : Opd G g x (.fz (.vals 1 (l.map encY)))) : OpP P o g G (SV (bStr l)) :=
  .of fun S m a w hg ha => by
    have h1 := (hx.rep hg (by simp [ho, Op.operands]) ha).frz
    generalize hv : a.eval x = v at h1
    generalize hr : l.map encY = rows at h1
    refine ⟨.string (bStr l), ?_, .fz _ _ (.lit _)⟩
    cases h1 with
    | nil ad cap =>
      have hl : l = [] := by simpa using hr
      subst hl
      have : (Conv.bytesToString (.slice ad 0 cap)).run P w = .ok (.string (bStr [])) w := by
        cases ad with
        | none => rfl
        | some ad => exact run_bytesToString (P := P) w ad 0 cap [] (by simp [loadCells, loadCellsFrom])
      simp [execOp, ho, hv, run_convert_bytes_string w t t' e ad 0 cap hd.h he.h h2.h, this]
    | vals b off cap _ _ U hS hcap hsz hU hR =>
      subst hr
      have hload := run_loadCells_list (P := P) w ⟨b, off, none⟩ (l.map (Value.int .u8)) (fun j u hu => by
        rw [List.getElem?_map] at hu
        obtain ⟨n, hn, rfl⟩ := Option.map_eq_some_iff.1 hu
        have k1 := hU j 0 (encY n) (If .u8 n) (by simp [hn]) rfl
        have k2 := hR j 0 (encY n) (If .u8 n) (by simp [hn]) rfl
        have e : U j 0 = .int .u8 n := by
          generalize U j 0 = u at k2
          cases k2; rfl
        have k3 := k1.1
        rw [e, Nat.mul_one, Nat.add_zero] at k3
        by_cases hj : j = 0
        · subst hj; simpa [Addr.add] using k3
        · simpa [Addr.add, hj] using k3)
      have := run_bytesToString (P := P) w ⟨b, off, none⟩ (l.map encY).length cap l (by
        rw [List.length_map] at hload ⊢; exact hload)
      have this : (Conv.bytesToString (.slice (some ⟨b, off, none⟩) (l.map encY).length cap)).run P w = .ok (.string (bStr l)) w := this
      simp only [execOp, ho, hv, Sem.run_bind, run_convert_bytes_string w t t' e _ _ _ hd.h he.h h2.h, this]
      simp
theorem op_eqlT {s u : ByteArray} [hd : TyD P t .string] (ho : o.op = .binOp .eql t x y t') (hx : Opd G g x (SV s)) (hy : Opd G g y (SV u)) : OpP P o g G (BV (s.toList == u.toList)) :=
  .of fun S m a w hg ha => by
    have r1 := (hx.rep hg (by simp [ho, Op.operands]) ha).lit
    have r2 := (hy.rep hg (by simp [ho, Op.operands]) ha).lit
    refine ⟨.bool (s.toList == u.toList), ?_, .fz _ _ (.lit _)⟩
    simp [execOp, ho, r1, r2, eqGuard, binOp, Op.stringOp]
theorem op_neqT {s u : ByteArray} [hd : TyD P t .string] (ho : o.op = .binOp .neq t x y t') (hx : Opd G g x (SV s)) (hy : Opd G g y (SV u)) : OpP P o g G (BV (!(s.toList == u.toList))) :=
  .of fun S m a w hg ha => by
    have r1 := (hx.rep hg (by simp [ho, Op.operands]) ha).lit
    have r2 := (hy.rep hg (by simp [ho, Op.operands]) ha).lit
    refine ⟨.bool (!(s.toList == u.toList)), ?_, .fz _ _ (.lit _)⟩
    simp [execOp, ho, r1, r2, eqGuard, binOp, Op.stringOp]
end
theorem bStr_data (l : List Int) : ∀ s : ByteArray, (l.foldl (fun r n => r.push (UInt8.ofNat n.toNat)) s).data.toList = s.data.toList ++ l.map fun n => UInt8.ofNat n.toNat := by
  induction l with
  | nil => intro s; simp
  | cons n l ih => intro s; rw [List.foldl_cons, ih]; simp [ByteArray.push]
theorem bStr_inj {a b : List Int} (ha : ∀ n ∈ a, 0 ≤ n ∧ n < 256) (hb : ∀ n ∈ b, 0 ≤ n ∧ n < 256) (h : (a.map fun n => UInt8.ofNat n.toNat) = b.map fun n => UInt8.ofNat n.toNat) : a = b := by
  induction a generalizing b with
  | nil => cases b with
    | nil => rfl
    | cons y b => simp at h
  | cons x a ih => cases b with
    | nil => simp at h
    | cons y b =>
      simp only [List.map_cons, List.cons.injEq] at h
      have hx := ha x (List.mem_cons_self ..)
      have hy := hb y (List.mem_cons_self ..)
      have e := congrArg UInt8.toNat h.1
      simp only [UInt8.toNat_ofNat'] at e
      rw [ih (fun n hn => ha n (List.mem_cons_of_mem _ hn)) (fun n hn => hb n (List.mem_cons_of_mem _ hn)) h.2]
      congr 1
      omega
theorem bStr_eq {a b : List Int} (ha : ∀ n ∈ a, 0 ≤ n ∧ n < 256) (hb : ∀ n ∈ b, 0 ≤ n ∧ n < 256) : ((bStr a).toList == (bStr b).toList) = decide (a = b) := by
  rw [ByteArray.toList_eq, ByteArray.toList_eq]
  have h1 : (bStr a).data.toList = a.map fun n => UInt8.ofNat n.toNat := by have := bStr_data a ByteArray.empty; simpa [bStr] using this
  have h2 : (bStr b).data.toList = b.map fun n => UInt8.ofNat n.toNat := by have := bStr_data b ByteArray.empty; simpa [bStr] using this
  rw [h1, h2, Bool.eq_iff_iff, beq_iff_eq, decide_eq_true_iff]
  exact ⟨bStr_inj ha hb, fun h => by rw [h]⟩
end Go.RT
/- The types and functions of the translation, as the rules ask for them. Written by tab.py. -/
namespace Go.Proofs.Ytfkcbglnadjnnaa
open Go Go.RT Go.Proofs
set_option linter.unusedVariables false
theorem mixed : Try.prog.follows .mixedOrders = true := Try.checked.mixed
theorem tyn_of {P : Program} {t : TypeId} {s b : Nat} {z : Value} (h : (P.info? t).map (fun i => (i.size, i.bytes, i.zero)) = some (s, b, some z)) : TyN P t s b z := by
  obtain ⟨i, hi, he⟩ := Option.map_eq_some_iff.1 h
  simp only [Prod.mk.injEq] at he
  exact ⟨i, hi, he.1, he.2.1, he.2.2⟩
instance : TyA Try.prog 1 false := ⟨_, Try.underlying1, rfl⟩
instance : TyN Try.prog 1 1 8 (.nilFunc) := tyn_of (by kernel_rfl)
instance : TyD Try.prog 2 (.int .i64) := ⟨Try.underlying2⟩
instance : TyA Try.prog 2 false := ⟨_, Try.underlying2, rfl⟩
instance : TyN Try.prog 2 1 8 (.int .i64 0) := tyn_of (by kernel_rfl)
instance : TyD Try.prog 3 (.int .i64) := ⟨Try.underlying3⟩
instance : TyA Try.prog 3 false := ⟨_, Try.underlying3, rfl⟩
instance : TyN Try.prog 3 1 8 (.int .i64 0) := tyn_of (by kernel_rfl)
instance : TyD Try.prog 4 (.bool) := ⟨Try.underlying4⟩
instance : TyA Try.prog 4 false := ⟨_, Try.underlying4, rfl⟩
instance : TyN Try.prog 4 1 1 (.bool false) := tyn_of (by kernel_rfl)
instance : TyD Try.prog 5 (.int .u8) := ⟨Try.underlying5⟩
instance : TyA Try.prog 5 false := ⟨_, Try.underlying5, rfl⟩
instance : TyN Try.prog 5 1 1 (.int .u8 0) := tyn_of (by kernel_rfl)
instance : TyD Try.prog 9 (.string) := ⟨Try.underlying9⟩
instance : TyA Try.prog 9 false := ⟨_, Try.underlying9, rfl⟩
instance : TyN Try.prog 9 1 16 (.string ⟨#[]⟩) := tyn_of (by kernel_rfl)
instance : TyD Try.prog 12 (.int .u64) := ⟨Try.underlying12⟩
instance : TyA Try.prog 12 false := ⟨_, Try.underlying12, rfl⟩
instance : TyN Try.prog 12 1 8 (.int .u64 0) := tyn_of (by kernel_rfl)
instance : TyA Try.prog 13 true := ⟨_, Try.underlying13, rfl⟩
instance : TyN Try.prog 13 2 24 (.agg #[.string ⟨#[]⟩, .int .u64 0]) := tyn_of (by kernel_rfl)
instance : TyF Try.prog 13 0 0 9 := ⟨_, _, Try.underlying13, rfl, rfl, rfl⟩
instance : TyF Try.prog 13 1 1 12 := ⟨_, _, Try.underlying13, rfl, rfl, rfl⟩
instance : TyB Try.prog 13 [(0, 1), (1, 1)] := ⟨_, Try.underlying13, fun w => by kernel_rfl⟩
instance : TyD Try.prog 21 (.int .i32) := ⟨Try.underlying21⟩
instance : TyA Try.prog 21 false := ⟨_, Try.underlying21, rfl⟩
instance : TyN Try.prog 21 1 4 (.int .i32 0) := tyn_of (by kernel_rfl)
instance : TyD Try.prog 22 (.slice 37) := ⟨Try.underlying22⟩
instance : TyA Try.prog 22 false := ⟨_, Try.underlying22, rfl⟩
instance : TyN Try.prog 22 1 24 (.slice none 0 0) := tyn_of (by kernel_rfl)
instance : TyA Try.prog 23 false := ⟨_, Try.underlying23, rfl⟩
instance : TyN Try.prog 23 1 8 (.nilFunc) := tyn_of (by kernel_rfl)
instance : TyA Try.prog 24 false := ⟨_, Try.underlying24, rfl⟩
instance : TyN Try.prog 24 1 8 (.nilFunc) := tyn_of (by kernel_rfl)
instance : TyD Try.prog 25 (.int .i64) := ⟨Try.underlying25⟩
instance : TyA Try.prog 25 false := ⟨_, Try.underlying25, rfl⟩
instance : TyN Try.prog 25 1 8 (.int .i64 0) := tyn_of (by kernel_rfl)
instance : TyA Try.prog 26 false := ⟨_, Try.underlying26, rfl⟩
instance : TyN Try.prog 26 1 8 (.nilFunc) := tyn_of (by kernel_rfl)
instance : TyD Try.prog 27 (.int .u32) := ⟨Try.underlying27⟩
instance : TyA Try.prog 27 false := ⟨_, Try.underlying27, rfl⟩
instance : TyN Try.prog 27 1 4 (.int .u32 0) := tyn_of (by kernel_rfl)
instance : TyD Try.prog 28 (.int .u32) := ⟨Try.underlying28⟩
instance : TyA Try.prog 28 false := ⟨_, Try.underlying28, rfl⟩
instance : TyN Try.prog 28 1 4 (.int .u32 0) := tyn_of (by kernel_rfl)
instance : TyA Try.prog 29 true := ⟨_, Try.underlying29, rfl⟩
instance : TyN Try.prog 29 2 16 (.agg #[.int .u32 0, .int .i64 0]) := tyn_of (by kernel_rfl)
instance : TyF Try.prog 29 0 0 28 := ⟨_, _, Try.underlying29, rfl, rfl, rfl⟩
instance : TyF Try.prog 29 1 1 3 := ⟨_, _, Try.underlying29, rfl, rfl, rfl⟩
instance : EqS Try.prog 29 2 := ⟨by kernel_rfl, by kernel_rfl, by kernel_rfl, by kernel_rfl⟩
instance : TyB Try.prog 29 [(0, 1), (1, 1)] := ⟨_, Try.underlying29, fun w => by kernel_rfl⟩
instance : TyA Try.prog 30 true := ⟨_, Try.underlying30, rfl⟩
instance : TyN Try.prog 30 2 16 (.agg #[.int .u32 0, .int .i64 0]) := tyn_of (by kernel_rfl)
instance : TyF Try.prog 30 0 0 28 := ⟨_, _, Try.underlying30, rfl, rfl, rfl⟩
instance : TyF Try.prog 30 1 1 3 := ⟨_, _, Try.underlying30, rfl, rfl, rfl⟩
instance : EqS Try.prog 30 2 := ⟨by kernel_rfl, by kernel_rfl, by kernel_rfl, by kernel_rfl⟩
instance : TyB Try.prog 30 [(0, 1), (1, 1)] := ⟨_, Try.underlying30, fun w => by kernel_rfl⟩
instance : TyD Try.prog 31 (.slice 98) := ⟨Try.underlying31⟩
instance : TyA Try.prog 31 false := ⟨_, Try.underlying31, rfl⟩
instance : TyN Try.prog 31 1 24 (.slice none 0 0) := tyn_of (by kernel_rfl)
instance : TyD Try.prog 32 (.slice 27) := ⟨Try.underlying32⟩
instance : TyA Try.prog 32 false := ⟨_, Try.underlying32, rfl⟩
instance : TyN Try.prog 32 1 24 (.slice none 0 0) := tyn_of (by kernel_rfl)
instance : TyD Try.prog 33 (.slice 77) := ⟨Try.underlying33⟩
instance : TyA Try.prog 33 false := ⟨_, Try.underlying33, rfl⟩
instance : TyN Try.prog 33 1 24 (.slice none 0 0) := tyn_of (by kernel_rfl)
instance : TyA Try.prog 34 true := ⟨_, Try.underlying34, rfl⟩
instance : TyN Try.prog 34 16 168 (.agg #[.int .i64 0, .slice none 0 0, .int .u32 0, .bool false, .int .i64 0, .bool false, .int .i64 0, .bool false, .bool false, .int .i64 0, .int .u32 0, .slice none 0 0, .bool false, .int .u32 0, .slice none 0 0, .slice none 0 0]) := tyn_of (by kernel_rfl)
instance : TyF Try.prog 34 0 0 3 := ⟨_, _, Try.underlying34, rfl, rfl, rfl⟩
instance : TyF Try.prog 34 1 1 31 := ⟨_, _, Try.underlying34, rfl, rfl, rfl⟩
instance : TyF Try.prog 34 2 2 28 := ⟨_, _, Try.underlying34, rfl, rfl, rfl⟩
instance : TyF Try.prog 34 3 3 4 := ⟨_, _, Try.underlying34, rfl, rfl, rfl⟩
instance : TyF Try.prog 34 4 4 3 := ⟨_, _, Try.underlying34, rfl, rfl, rfl⟩
instance : TyF Try.prog 34 5 5 4 := ⟨_, _, Try.underlying34, rfl, rfl, rfl⟩
instance : TyF Try.prog 34 6 6 3 := ⟨_, _, Try.underlying34, rfl, rfl, rfl⟩
instance : TyF Try.prog 34 7 7 4 := ⟨_, _, Try.underlying34, rfl, rfl, rfl⟩
instance : TyF Try.prog 34 8 8 4 := ⟨_, _, Try.underlying34, rfl, rfl, rfl⟩
instance : TyF Try.prog 34 9 9 3 := ⟨_, _, Try.underlying34, rfl, rfl, rfl⟩
instance : TyF Try.prog 34 10 10 28 := ⟨_, _, Try.underlying34, rfl, rfl, rfl⟩
instance : TyF Try.prog 34 11 11 32 := ⟨_, _, Try.underlying34, rfl, rfl, rfl⟩
instance : TyF Try.prog 34 12 12 4 := ⟨_, _, Try.underlying34, rfl, rfl, rfl⟩
instance : TyF Try.prog 34 13 13 27 := ⟨_, _, Try.underlying34, rfl, rfl, rfl⟩
instance : TyF Try.prog 34 14 14 32 := ⟨_, _, Try.underlying34, rfl, rfl, rfl⟩
instance : TyF Try.prog 34 15 15 33 := ⟨_, _, Try.underlying34, rfl, rfl, rfl⟩
instance : TyB Try.prog 34 [(0, 1), (1, 1), (2, 1), (3, 1), (4, 1), (5, 1), (6, 1), (7, 1), (8, 1), (9, 1), (10, 1), (11, 1), (12, 1), (13, 1), (14, 1), (15, 1)] := ⟨_, Try.underlying34, fun w => by kernel_rfl⟩
instance : TyA Try.prog 35 true := ⟨_, Try.underlying35, rfl⟩
instance : TyN Try.prog 35 16 168 (.agg #[.int .i64 0, .slice none 0 0, .int .u32 0, .bool false, .int .i64 0, .bool false, .int .i64 0, .bool false, .bool false, .int .i64 0, .int .u32 0, .slice none 0 0, .bool false, .int .u32 0, .slice none 0 0, .slice none 0 0]) := tyn_of (by kernel_rfl)
instance : TyF Try.prog 35 0 0 3 := ⟨_, _, Try.underlying35, rfl, rfl, rfl⟩
instance : TyF Try.prog 35 1 1 31 := ⟨_, _, Try.underlying35, rfl, rfl, rfl⟩
instance : TyF Try.prog 35 2 2 28 := ⟨_, _, Try.underlying35, rfl, rfl, rfl⟩
instance : TyF Try.prog 35 3 3 4 := ⟨_, _, Try.underlying35, rfl, rfl, rfl⟩
instance : TyF Try.prog 35 4 4 3 := ⟨_, _, Try.underlying35, rfl, rfl, rfl⟩
instance : TyF Try.prog 35 5 5 4 := ⟨_, _, Try.underlying35, rfl, rfl, rfl⟩
instance : TyF Try.prog 35 6 6 3 := ⟨_, _, Try.underlying35, rfl, rfl, rfl⟩
instance : TyF Try.prog 35 7 7 4 := ⟨_, _, Try.underlying35, rfl, rfl, rfl⟩
instance : TyF Try.prog 35 8 8 4 := ⟨_, _, Try.underlying35, rfl, rfl, rfl⟩
instance : TyF Try.prog 35 9 9 3 := ⟨_, _, Try.underlying35, rfl, rfl, rfl⟩
instance : TyF Try.prog 35 10 10 28 := ⟨_, _, Try.underlying35, rfl, rfl, rfl⟩
instance : TyF Try.prog 35 11 11 32 := ⟨_, _, Try.underlying35, rfl, rfl, rfl⟩
instance : TyF Try.prog 35 12 12 4 := ⟨_, _, Try.underlying35, rfl, rfl, rfl⟩
instance : TyF Try.prog 35 13 13 27 := ⟨_, _, Try.underlying35, rfl, rfl, rfl⟩
instance : TyF Try.prog 35 14 14 32 := ⟨_, _, Try.underlying35, rfl, rfl, rfl⟩
instance : TyF Try.prog 35 15 15 33 := ⟨_, _, Try.underlying35, rfl, rfl, rfl⟩
instance : TyB Try.prog 35 [(0, 1), (1, 1), (2, 1), (3, 1), (4, 1), (5, 1), (6, 1), (7, 1), (8, 1), (9, 1), (10, 1), (11, 1), (12, 1), (13, 1), (14, 1), (15, 1)] := ⟨_, Try.underlying35, fun w => by kernel_rfl⟩
instance : TyA Try.prog 36 true := ⟨_, Try.underlying36, rfl⟩
instance : TyN Try.prog 36 22 208 (.agg #[.int .u32 0, .int .i64 0, .int .i64 0, .slice none 0 0, .int .u32 0, .bool false, .int .i64 0, .bool false, .int .i64 0, .bool false, .bool false, .int .i64 0, .int .u32 0, .slice none 0 0, .bool false, .int .u32 0, .slice none 0 0, .slice none 0 0, .int .i64 0, .int .i64 0, .int .u32 0, .bool false]) := tyn_of (by kernel_rfl)
instance : TyF Try.prog 36 0 0 30 := ⟨_, _, Try.underlying36, rfl, rfl, rfl⟩
instance : TyF Try.prog 36 1 2 35 := ⟨_, _, Try.underlying36, rfl, rfl, rfl⟩
instance : TyF Try.prog 36 2 18 3 := ⟨_, _, Try.underlying36, rfl, rfl, rfl⟩
instance : TyF Try.prog 36 3 19 3 := ⟨_, _, Try.underlying36, rfl, rfl, rfl⟩
instance : TyF Try.prog 36 4 20 27 := ⟨_, _, Try.underlying36, rfl, rfl, rfl⟩
instance : TyF Try.prog 36 5 21 4 := ⟨_, _, Try.underlying36, rfl, rfl, rfl⟩
instance : TyB Try.prog 36 [(0, 2), (2, 16), (18, 1), (19, 1), (20, 1), (21, 1)] := ⟨_, Try.underlying36, fun w => by kernel_rfl⟩
instance : TyA Try.prog 37 true := ⟨_, Try.underlying37, rfl⟩
instance : TyN Try.prog 37 22 208 (.agg #[.int .u32 0, .int .i64 0, .int .i64 0, .slice none 0 0, .int .u32 0, .bool false, .int .i64 0, .bool false, .int .i64 0, .bool false, .bool false, .int .i64 0, .int .u32 0, .slice none 0 0, .bool false, .int .u32 0, .slice none 0 0, .slice none 0 0, .int .i64 0, .int .i64 0, .int .u32 0, .bool false]) := tyn_of (by kernel_rfl)
instance : TyF Try.prog 37 0 0 30 := ⟨_, _, Try.underlying37, rfl, rfl, rfl⟩
instance : TyF Try.prog 37 1 2 35 := ⟨_, _, Try.underlying37, rfl, rfl, rfl⟩
instance : TyF Try.prog 37 2 18 3 := ⟨_, _, Try.underlying37, rfl, rfl, rfl⟩
instance : TyF Try.prog 37 3 19 3 := ⟨_, _, Try.underlying37, rfl, rfl, rfl⟩
instance : TyF Try.prog 37 4 20 27 := ⟨_, _, Try.underlying37, rfl, rfl, rfl⟩
instance : TyF Try.prog 37 5 21 4 := ⟨_, _, Try.underlying37, rfl, rfl, rfl⟩
instance : TyB Try.prog 37 [(0, 2), (2, 16), (18, 1), (19, 1), (20, 1), (21, 1)] := ⟨_, Try.underlying37, fun w => by kernel_rfl⟩
instance : TyA Try.prog 38 false := ⟨_, Try.underlying38, rfl⟩
instance : TyN Try.prog 38 1 8 (.nilFunc) := tyn_of (by kernel_rfl)
instance : TyA Try.prog 40 false := ⟨_, Try.underlying40, rfl⟩
instance : TyN Try.prog 40 1 8 (.nilFunc) := tyn_of (by kernel_rfl)
instance : TyA Try.prog 41 false := ⟨_, Try.underlying41, rfl⟩
instance : TyN Try.prog 41 1 8 (.nilFunc) := tyn_of (by kernel_rfl)
instance : TyA Try.prog 42 false := ⟨_, Try.underlying42, rfl⟩
instance : TyN Try.prog 42 1 8 (.nilFunc) := tyn_of (by kernel_rfl)
instance : TyA Try.prog 43 false := ⟨_, Try.underlying43, rfl⟩
instance : TyN Try.prog 43 1 8 (.nilFunc) := tyn_of (by kernel_rfl)
instance : TyD Try.prog 44 (.slice 30) := ⟨Try.underlying44⟩
instance : TyA Try.prog 44 false := ⟨_, Try.underlying44, rfl⟩
instance : TyN Try.prog 44 1 24 (.slice none 0 0) := tyn_of (by kernel_rfl)
instance : TyA Try.prog 46 false := ⟨_, Try.underlying46, rfl⟩
instance : TyN Try.prog 46 1 8 (.nilFunc) := tyn_of (by kernel_rfl)
instance : TyA Try.prog 47 false := ⟨_, Try.underlying47, rfl⟩
instance : TyN Try.prog 47 1 8 (.nilFunc) := tyn_of (by kernel_rfl)
instance : TyA Try.prog 48 false := ⟨_, Try.underlying48, rfl⟩
instance : TyN Try.prog 48 1 8 (.nilFunc) := tyn_of (by kernel_rfl)
instance : TyA Try.prog 49 false := ⟨_, Try.underlying49, rfl⟩
instance : TyN Try.prog 49 1 8 (.nilFunc) := tyn_of (by kernel_rfl)
instance : TyA Try.prog 50 false := ⟨_, Try.underlying50, rfl⟩
instance : TyN Try.prog 50 1 8 (.nilFunc) := tyn_of (by kernel_rfl)
instance : TyA Try.prog 51 false := ⟨_, Try.underlying51, rfl⟩
instance : TyN Try.prog 51 1 8 (.nilFunc) := tyn_of (by kernel_rfl)
instance : TyD Try.prog 52 (.slice 22) := ⟨Try.underlying52⟩
instance : TyA Try.prog 52 false := ⟨_, Try.underlying52, rfl⟩
instance : TyN Try.prog 52 1 24 (.slice none 0 0) := tyn_of (by kernel_rfl)
instance : TyA Try.prog 53 false := ⟨_, Try.underlying53, rfl⟩
instance : TyN Try.prog 53 1 8 (.nilFunc) := tyn_of (by kernel_rfl)
instance : TyA Try.prog 54 false := ⟨_, Try.underlying54, rfl⟩
instance : TyN Try.prog 54 1 8 (.nilFunc) := tyn_of (by kernel_rfl)
instance : TyA Try.prog 55 false := ⟨_, Try.underlying55, rfl⟩
instance : TyN Try.prog 55 1 8 (.nilFunc) := tyn_of (by kernel_rfl)
instance : TyA Try.prog 56 false := ⟨_, Try.underlying56, rfl⟩
instance : TyN Try.prog 56 1 8 (.nilFunc) := tyn_of (by kernel_rfl)
instance : TyA Try.prog 57 false := ⟨_, Try.underlying57, rfl⟩
instance : TyN Try.prog 57 1 8 (.nilFunc) := tyn_of (by kernel_rfl)
instance : TyA Try.prog 58 false := ⟨_, Try.underlying58, rfl⟩
instance : TyN Try.prog 58 1 8 (.nilFunc) := tyn_of (by kernel_rfl)
instance : TyA Try.prog 59 false := ⟨_, Try.underlying59, rfl⟩
instance : TyN Try.prog 59 1 8 (.nilFunc) := tyn_of (by kernel_rfl)
instance : TyA Try.prog 60 false := ⟨_, Try.underlying60, rfl⟩
instance : TyN Try.prog 60 1 8 (.nilFunc) := tyn_of (by kernel_rfl)
instance : TyA Try.prog 61 false := ⟨_, Try.underlying61, rfl⟩
instance : TyN Try.prog 61 1 8 (.nilFunc) := tyn_of (by kernel_rfl)
instance : TyA Try.prog 62 false := ⟨_, Try.underlying62, rfl⟩
instance : TyN Try.prog 62 1 8 (.nilFunc) := tyn_of (by kernel_rfl)
instance : TyA Try.prog 63 false := ⟨_, Try.underlying63, rfl⟩
instance : TyN Try.prog 63 1 8 (.nilFunc) := tyn_of (by kernel_rfl)
instance : TyA Try.prog 64 false := ⟨_, Try.underlying64, rfl⟩
instance : TyN Try.prog 64 1 8 (.nilFunc) := tyn_of (by kernel_rfl)
instance : TyA Try.prog 65 false := ⟨_, Try.underlying65, rfl⟩
instance : TyN Try.prog 65 1 8 (.nilFunc) := tyn_of (by kernel_rfl)
instance : TyA Try.prog 66 false := ⟨_, Try.underlying66, rfl⟩
instance : TyN Try.prog 66 1 8 (.nilFunc) := tyn_of (by kernel_rfl)
instance : TyA Try.prog 67 false := ⟨_, Try.underlying67, rfl⟩
instance : TyN Try.prog 67 1 8 (.nilFunc) := tyn_of (by kernel_rfl)
instance : TyA Try.prog 68 false := ⟨_, Try.underlying68, rfl⟩
instance : TyN Try.prog 68 1 8 (.nilFunc) := tyn_of (by kernel_rfl)
instance : TyA Try.prog 69 false := ⟨_, Try.underlying69, rfl⟩
instance : TyN Try.prog 69 1 8 (.nilFunc) := tyn_of (by kernel_rfl)
instance : TyA Try.prog 70 false := ⟨_, Try.underlying70, rfl⟩
instance : TyN Try.prog 70 1 8 (.nilFunc) := tyn_of (by kernel_rfl)
instance : TyA Try.prog 71 false := ⟨_, Try.underlying71, rfl⟩
instance : TyN Try.prog 71 1 8 (.nilFunc) := tyn_of (by kernel_rfl)
instance : TyA Try.prog 72 false := ⟨_, Try.underlying72, rfl⟩
instance : TyN Try.prog 72 1 8 (.nilFunc) := tyn_of (by kernel_rfl)
instance : TyA Try.prog 73 false := ⟨_, Try.underlying73, rfl⟩
instance : TyN Try.prog 73 1 8 (.nilFunc) := tyn_of (by kernel_rfl)
instance : TyA Try.prog 74 false := ⟨_, Try.underlying74, rfl⟩
instance : TyN Try.prog 74 1 8 (.nilFunc) := tyn_of (by kernel_rfl)
instance : TyD Try.prog 75 (.slice 5) := ⟨Try.underlying75⟩
instance : TyA Try.prog 75 false := ⟨_, Try.underlying75, rfl⟩
instance : TyN Try.prog 75 1 24 (.slice none 0 0) := tyn_of (by kernel_rfl)
instance : TyA Try.prog 76 true := ⟨_, Try.underlying76, rfl⟩
instance : TyN Try.prog 76 2 32 (.agg #[.int .i64 0, .slice none 0 0]) := tyn_of (by kernel_rfl)
instance : TyF Try.prog 76 0 0 3 := ⟨_, _, Try.underlying76, rfl, rfl, rfl⟩
instance : TyF Try.prog 76 1 1 75 := ⟨_, _, Try.underlying76, rfl, rfl, rfl⟩
instance : TyB Try.prog 76 [(0, 1), (1, 1)] := ⟨_, Try.underlying76, fun w => by kernel_rfl⟩
instance : TyA Try.prog 77 true := ⟨_, Try.underlying77, rfl⟩
instance : TyN Try.prog 77 2 32 (.agg #[.int .i64 0, .slice none 0 0]) := tyn_of (by kernel_rfl)
instance : TyF Try.prog 77 0 0 3 := ⟨_, _, Try.underlying77, rfl, rfl, rfl⟩
instance : TyF Try.prog 77 1 1 75 := ⟨_, _, Try.underlying77, rfl, rfl, rfl⟩
instance : TyB Try.prog 77 [(0, 1), (1, 1)] := ⟨_, Try.underlying77, fun w => by kernel_rfl⟩
instance : TyA Try.prog 78 false := ⟨_, Try.underlying78, rfl⟩
instance : TyN Try.prog 78 1 8 (.nilFunc) := tyn_of (by kernel_rfl)
instance : TyA Try.prog 79 false := ⟨_, Try.underlying79, rfl⟩
instance : TyN Try.prog 79 1 8 (.nilFunc) := tyn_of (by kernel_rfl)
instance : TyA Try.prog 80 false := ⟨_, Try.underlying80, rfl⟩
instance : TyN Try.prog 80 1 8 (.nilFunc) := tyn_of (by kernel_rfl)
instance : TyA Try.prog 81 false := ⟨_, Try.underlying81, rfl⟩
instance : TyN Try.prog 81 1 8 (.nilFunc) := tyn_of (by kernel_rfl)
instance : TyA Try.prog 83 false := ⟨_, Try.underlying83, rfl⟩
instance : TyN Try.prog 83 1 8 (.nilFunc) := tyn_of (by kernel_rfl)
instance : TyA Try.prog 84 false := ⟨_, Try.underlying84, rfl⟩
instance : TyN Try.prog 84 1 8 (.nilFunc) := tyn_of (by kernel_rfl)
instance : TyA Try.prog 85 false := ⟨_, Try.underlying85, rfl⟩
instance : TyN Try.prog 85 1 8 (.nilFunc) := tyn_of (by kernel_rfl)
instance : TyA Try.prog 86 false := ⟨_, Try.underlying86, rfl⟩
instance : TyN Try.prog 86 1 8 (.nilFunc) := tyn_of (by kernel_rfl)
instance : TyA Try.prog 87 false := ⟨_, Try.underlying87, rfl⟩
instance : TyN Try.prog 87 1 8 (.nilFunc) := tyn_of (by kernel_rfl)
instance : TyA Try.prog 88 false := ⟨_, Try.underlying88, rfl⟩
instance : TyN Try.prog 88 1 8 (.nilFunc) := tyn_of (by kernel_rfl)
instance : TyA Try.prog 89 false := ⟨_, Try.underlying89, rfl⟩
instance : TyN Try.prog 89 1 8 (.nilFunc) := tyn_of (by kernel_rfl)
instance : TyA Try.prog 90 false := ⟨_, Try.underlying90, rfl⟩
instance : TyN Try.prog 90 1 8 (.nilFunc) := tyn_of (by kernel_rfl)
instance : TyD Try.prog 91 (.slice 3) := ⟨Try.underlying91⟩
instance : TyA Try.prog 91 false := ⟨_, Try.underlying91, rfl⟩
instance : TyN Try.prog 91 1 24 (.slice none 0 0) := tyn_of (by kernel_rfl)
instance : TyA Try.prog 92 false := ⟨_, Try.underlying92, rfl⟩
instance : TyN Try.prog 92 1 8 (.nilFunc) := tyn_of (by kernel_rfl)
instance : TyD Try.prog 93 (.int .u64) := ⟨Try.underlying93⟩
instance : TyA Try.prog 93 false := ⟨_, Try.underlying93, rfl⟩
instance : TyN Try.prog 93 1 8 (.int .u64 0) := tyn_of (by kernel_rfl)
instance : TyA Try.prog 94 false := ⟨_, Try.underlying94, rfl⟩
instance : TyN Try.prog 94 1 8 (.nilFunc) := tyn_of (by kernel_rfl)
instance : TyA Try.prog 95 false := ⟨_, Try.underlying95, rfl⟩
instance : TyN Try.prog 95 1 8 (.nilFunc) := tyn_of (by kernel_rfl)
instance : TyA Try.prog 96 false := ⟨_, Try.underlying96, rfl⟩
instance : TyN Try.prog 96 1 8 (.nilFunc) := tyn_of (by kernel_rfl)
instance : TyA Try.prog 97 true := ⟨_, Try.underlying97, rfl⟩
instance : TyN Try.prog 97 2 32 (.agg #[.int .i64 0, .slice none 0 0]) := tyn_of (by kernel_rfl)
instance : TyF Try.prog 97 0 0 3 := ⟨_, _, Try.underlying97, rfl, rfl, rfl⟩
instance : TyF Try.prog 97 1 1 91 := ⟨_, _, Try.underlying97, rfl, rfl, rfl⟩
instance : TyB Try.prog 97 [(0, 1), (1, 1)] := ⟨_, Try.underlying97, fun w => by kernel_rfl⟩
instance : TyA Try.prog 98 true := ⟨_, Try.underlying98, rfl⟩
instance : TyN Try.prog 98 2 32 (.agg #[.int .i64 0, .slice none 0 0]) := tyn_of (by kernel_rfl)
instance : TyF Try.prog 98 0 0 3 := ⟨_, _, Try.underlying98, rfl, rfl, rfl⟩
instance : TyF Try.prog 98 1 1 91 := ⟨_, _, Try.underlying98, rfl, rfl, rfl⟩
instance : TyB Try.prog 98 [(0, 1), (1, 1)] := ⟨_, Try.underlying98, fun w => by kernel_rfl⟩
instance : TyA Try.prog 99 false := ⟨_, Try.underlying99, rfl⟩
instance : TyN Try.prog 99 1 8 (.nilFunc) := tyn_of (by kernel_rfl)
instance : TyA Try.prog 100 false := ⟨_, Try.underlying100, rfl⟩
instance : TyN Try.prog 100 1 8 (.nilFunc) := tyn_of (by kernel_rfl)
instance : TyA Try.prog 101 false := ⟨_, Try.underlying101, rfl⟩
instance : TyN Try.prog 101 1 8 (.nilFunc) := tyn_of (by kernel_rfl)
instance : TyA Try.prog 102 false := ⟨_, Try.underlying102, rfl⟩
instance : TyN Try.prog 102 1 8 (.nilFunc) := tyn_of (by kernel_rfl)
instance : TyA Try.prog 103 false := ⟨_, Try.underlying103, rfl⟩
instance : TyN Try.prog 103 1 8 (.nilFunc) := tyn_of (by kernel_rfl)
instance : TyA Try.prog 104 false := ⟨_, Try.underlying104, rfl⟩
instance : TyN Try.prog 104 1 8 (.nilFunc) := tyn_of (by kernel_rfl)
instance : TyD Try.prog 105 (.slice 25) := ⟨Try.underlying105⟩
instance : TyA Try.prog 105 false := ⟨_, Try.underlying105, rfl⟩
instance : TyN Try.prog 105 1 24 (.slice none 0 0) := tyn_of (by kernel_rfl)
instance : TyA Try.prog 106 false := ⟨_, Try.underlying106, rfl⟩
instance : TyN Try.prog 106 1 8 (.nilFunc) := tyn_of (by kernel_rfl)
instance : TyA Try.prog 107 false := ⟨_, Try.underlying107, rfl⟩
instance : TyN Try.prog 107 1 8 (.nilFunc) := tyn_of (by kernel_rfl)
instance : TyA Try.prog 108 false := ⟨_, Try.underlying108, rfl⟩
instance : TyN Try.prog 108 1 8 (.nilFunc) := tyn_of (by kernel_rfl)
instance : TyA Try.prog 109 false := ⟨_, Try.underlying109, rfl⟩
instance : TyN Try.prog 109 1 8 (.nilFunc) := tyn_of (by kernel_rfl)
instance : TyA Try.prog 110 false := ⟨_, Try.underlying110, rfl⟩
instance : TyN Try.prog 110 1 8 (.nilFunc) := tyn_of (by kernel_rfl)
instance : TyD Try.prog 111 (.int .i64) := ⟨Try.underlying111⟩
instance : TyA Try.prog 111 false := ⟨_, Try.underlying111, rfl⟩
instance : TyN Try.prog 111 1 8 (.int .i64 0) := tyn_of (by kernel_rfl)
instance : TyA Try.prog 113 false := ⟨_, Try.underlying113, rfl⟩
instance : TyN Try.prog 113 1 8 (.nilFunc) := tyn_of (by kernel_rfl)
instance : TyA Try.prog 114 false := ⟨_, Try.underlying114, rfl⟩
instance : TyN Try.prog 114 1 8 (.nilFunc) := tyn_of (by kernel_rfl)
instance : TyA Try.prog 115 false := ⟨_, Try.underlying115, rfl⟩
instance : TyN Try.prog 115 1 8 (.nilFunc) := tyn_of (by kernel_rfl)
instance : TyA Try.prog 117 false := ⟨_, Try.underlying117, rfl⟩
instance : TyN Try.prog 117 1 8 (.nilFunc) := tyn_of (by kernel_rfl)
instance : TyA Try.prog 118 false := ⟨_, Try.underlying118, rfl⟩
instance : TyN Try.prog 118 1 8 (.nilFunc) := tyn_of (by kernel_rfl)
instance : TyA Try.prog 119 false := ⟨_, Try.underlying119, rfl⟩
instance : TyN Try.prog 119 1 8 (.nilFunc) := tyn_of (by kernel_rfl)
instance : TyD Try.prog 120 (.int .u64) := ⟨Try.underlying120⟩
instance : TyA Try.prog 120 false := ⟨_, Try.underlying120, rfl⟩
instance : TyN Try.prog 120 1 8 (.int .u64 0) := tyn_of (by kernel_rfl)
instance : TyD Try.prog 121 (.int .u64) := ⟨Try.underlying121⟩
instance : TyA Try.prog 121 false := ⟨_, Try.underlying121, rfl⟩
instance : TyN Try.prog 121 1 8 (.int .u64 0) := tyn_of (by kernel_rfl)
instance : TyA Try.prog 122 false := ⟨_, Try.underlying122, rfl⟩
instance : TyN Try.prog 122 1 8 (.nilFunc) := tyn_of (by kernel_rfl)
instance : TyA Try.prog 123 false := ⟨_, Try.underlying123, rfl⟩
instance : TyN Try.prog 123 1 8 (.nilFunc) := tyn_of (by kernel_rfl)
instance : TyA Try.prog 124 false := ⟨_, Try.underlying124, rfl⟩
instance : TyN Try.prog 124 1 8 (.nilFunc) := tyn_of (by kernel_rfl)
instance : TyD Try.prog 125 (.pointer 3) := ⟨Try.underlying125⟩
instance : TyA Try.prog 125 false := ⟨_, Try.underlying125, rfl⟩
instance : TyN Try.prog 125 1 8 (.pointer none) := tyn_of (by kernel_rfl)
instance : TyA Try.prog 126 false := ⟨_, Try.underlying126, rfl⟩
instance : TyN Try.prog 126 1 8 (.nilFunc) := tyn_of (by kernel_rfl)
instance : TyD Try.prog 127 (.pointer 121) := ⟨Try.underlying127⟩
instance : TyA Try.prog 127 false := ⟨_, Try.underlying127, rfl⟩
instance : TyN Try.prog 127 1 8 (.pointer none) := tyn_of (by kernel_rfl)
instance : TyA Try.prog 129 false := ⟨_, Try.underlying129, rfl⟩
instance : TyN Try.prog 129 1 8 (.nilFunc) := tyn_of (by kernel_rfl)
instance : TyA Try.prog 130 false := ⟨_, Try.underlying130, rfl⟩
instance : TyN Try.prog 130 1 8 (.nilFunc) := tyn_of (by kernel_rfl)
instance : TyA Try.prog 136 false := ⟨_, Try.underlying136, rfl⟩
instance : TyN Try.prog 136 1 8 (.nilFunc) := tyn_of (by kernel_rfl)
instance : TyA Try.prog 139 false := ⟨_, Try.underlying139, rfl⟩
instance : TyN Try.prog 139 1 8 (.nilFunc) := tyn_of (by kernel_rfl)
instance : TyD Try.prog 140 (.pointer 5) := ⟨Try.underlying140⟩
instance : TyA Try.prog 140 false := ⟨_, Try.underlying140, rfl⟩
instance : TyN Try.prog 140 1 8 (.pointer none) := tyn_of (by kernel_rfl)
instance : FnB Try.prog 2 := ⟨_, Try.func2, by decide +kernel, rfl⟩
instance : FnB Try.prog 3 := ⟨_, Try.func3, by decide +kernel, rfl⟩
instance : FnB Try.prog 4 := ⟨_, Try.func4, by decide +kernel, rfl⟩
instance : FnB Try.prog 5 := ⟨_, Try.func5, by decide +kernel, rfl⟩
instance : FnB Try.prog 6 := ⟨_, Try.func6, by decide +kernel, rfl⟩
instance : FnB Try.prog 7 := ⟨_, Try.func7, by decide +kernel, rfl⟩
instance : FnB Try.prog 8 := ⟨_, Try.func8, by decide +kernel, rfl⟩
instance : FnB Try.prog 9 := ⟨_, Try.func9, by decide +kernel, rfl⟩
instance : FnB Try.prog 10 := ⟨_, Try.func10, by decide +kernel, rfl⟩
instance : FnB Try.prog 11 := ⟨_, Try.func11, by decide +kernel, rfl⟩
instance : FnB Try.prog 12 := ⟨_, Try.func12, by decide +kernel, rfl⟩
instance : FnB Try.prog 13 := ⟨_, Try.func13, by decide +kernel, rfl⟩
instance : FnB Try.prog 14 := ⟨_, Try.func14, by decide +kernel, rfl⟩
instance : FnB Try.prog 15 := ⟨_, Try.func15, by decide +kernel, rfl⟩
instance : FnB Try.prog 16 := ⟨_, Try.func16, by decide +kernel, rfl⟩
instance : FnB Try.prog 17 := ⟨_, Try.func17, by decide +kernel, rfl⟩
instance : FnB Try.prog 18 := ⟨_, Try.func18, by decide +kernel, rfl⟩
instance : FnB Try.prog 19 := ⟨_, Try.func19, by decide +kernel, rfl⟩
instance : FnB Try.prog 20 := ⟨_, Try.func20, by decide +kernel, rfl⟩
instance : FnB Try.prog 21 := ⟨_, Try.func21, by decide +kernel, rfl⟩
instance : FnB Try.prog 22 := ⟨_, Try.func22, by decide +kernel, rfl⟩
instance : FnB Try.prog 23 := ⟨_, Try.func23, by decide +kernel, rfl⟩
instance : FnB Try.prog 24 := ⟨_, Try.func24, by decide +kernel, rfl⟩
instance : FnB Try.prog 25 := ⟨_, Try.func25, by decide +kernel, rfl⟩
instance : FnB Try.prog 26 := ⟨_, Try.func26, by decide +kernel, rfl⟩
instance : FnB Try.prog 27 := ⟨_, Try.func27, by decide +kernel, rfl⟩
instance : FnB Try.prog 28 := ⟨_, Try.func28, by decide +kernel, rfl⟩
instance : FnB Try.prog 29 := ⟨_, Try.func29, by decide +kernel, rfl⟩
instance : FnB Try.prog 30 := ⟨_, Try.func30, by decide +kernel, rfl⟩
instance : FnB Try.prog 31 := ⟨_, Try.func31, by decide +kernel, rfl⟩
instance : FnB Try.prog 32 := ⟨_, Try.func32, by decide +kernel, rfl⟩
instance : FnB Try.prog 33 := ⟨_, Try.func33, by decide +kernel, rfl⟩
instance : FnB Try.prog 34 := ⟨_, Try.func34, by decide +kernel, rfl⟩
instance : FnB Try.prog 35 := ⟨_, Try.func35, by decide +kernel, rfl⟩
instance : FnB Try.prog 36 := ⟨_, Try.func36, by decide +kernel, rfl⟩
instance : FnB Try.prog 37 := ⟨_, Try.func37, by decide +kernel, rfl⟩
instance : FnB Try.prog 38 := ⟨_, Try.func38, by decide +kernel, rfl⟩
instance : FnB Try.prog 39 := ⟨_, Try.func39, by decide +kernel, rfl⟩
instance : FnB Try.prog 40 := ⟨_, Try.func40, by decide +kernel, rfl⟩
instance : FnB Try.prog 41 := ⟨_, Try.func41, by decide +kernel, rfl⟩
instance : FnB Try.prog 42 := ⟨_, Try.func42, by decide +kernel, rfl⟩
instance : FnB Try.prog 43 := ⟨_, Try.func43, by decide +kernel, rfl⟩
instance : FnB Try.prog 44 := ⟨_, Try.func44, by decide +kernel, rfl⟩
instance : FnB Try.prog 45 := ⟨_, Try.func45, by decide +kernel, rfl⟩
instance : FnB Try.prog 46 := ⟨_, Try.func46, by decide +kernel, rfl⟩
instance : FnB Try.prog 47 := ⟨_, Try.func47, by decide +kernel, rfl⟩
instance : FnB Try.prog 48 := ⟨_, Try.func48, by decide +kernel, rfl⟩
instance : FnB Try.prog 49 := ⟨_, Try.func49, by decide +kernel, rfl⟩
instance : FnB Try.prog 50 := ⟨_, Try.func50, by decide +kernel, rfl⟩
instance : FnB Try.prog 51 := ⟨_, Try.func51, by decide +kernel, rfl⟩
instance : FnB Try.prog 52 := ⟨_, Try.func52, by decide +kernel, rfl⟩
instance : FnB Try.prog 53 := ⟨_, Try.func53, by decide +kernel, rfl⟩
instance : FnB Try.prog 54 := ⟨_, Try.func54, by decide +kernel, rfl⟩
instance : FnB Try.prog 55 := ⟨_, Try.func55, by decide +kernel, rfl⟩
instance : FnB Try.prog 56 := ⟨_, Try.func56, by decide +kernel, rfl⟩
instance : FnB Try.prog 57 := ⟨_, Try.func57, by decide +kernel, rfl⟩
instance : FnB Try.prog 58 := ⟨_, Try.func58, by decide +kernel, rfl⟩
instance : FnB Try.prog 59 := ⟨_, Try.func59, by decide +kernel, rfl⟩
instance : FnB Try.prog 60 := ⟨_, Try.func60, by decide +kernel, rfl⟩
instance : FnB Try.prog 61 := ⟨_, Try.func61, by decide +kernel, rfl⟩
instance : FnB Try.prog 62 := ⟨_, Try.func62, by decide +kernel, rfl⟩
instance : FnB Try.prog 63 := ⟨_, Try.func63, by decide +kernel, rfl⟩
instance : FnB Try.prog 64 := ⟨_, Try.func64, by decide +kernel, rfl⟩
instance : FnB Try.prog 65 := ⟨_, Try.func65, by decide +kernel, rfl⟩
instance : FnB Try.prog 66 := ⟨_, Try.func66, by decide +kernel, rfl⟩
instance : FnB Try.prog 67 := ⟨_, Try.func67, by decide +kernel, rfl⟩
instance : FnB Try.prog 68 := ⟨_, Try.func68, by decide +kernel, rfl⟩
instance : FnB Try.prog 69 := ⟨_, Try.func69, by decide +kernel, rfl⟩
instance : FnB Try.prog 70 := ⟨_, Try.func70, by decide +kernel, rfl⟩
instance : FnB Try.prog 71 := ⟨_, Try.func71, by decide +kernel, rfl⟩
instance : FnB Try.prog 72 := ⟨_, Try.func72, by decide +kernel, rfl⟩
instance : FnB Try.prog 73 := ⟨_, Try.func73, by decide +kernel, rfl⟩
instance : FnB Try.prog 74 := ⟨_, Try.func74, by decide +kernel, rfl⟩
instance : FnB Try.prog 75 := ⟨_, Try.func75, by decide +kernel, rfl⟩
instance : FnB Try.prog 76 := ⟨_, Try.func76, by decide +kernel, rfl⟩
instance : FnB Try.prog 77 := ⟨_, Try.func77, by decide +kernel, rfl⟩
instance : FnB Try.prog 78 := ⟨_, Try.func78, by decide +kernel, rfl⟩
instance : FnB Try.prog 79 := ⟨_, Try.func79, by decide +kernel, rfl⟩
instance : FnB Try.prog 80 := ⟨_, Try.func80, by decide +kernel, rfl⟩
instance : FnB Try.prog 81 := ⟨_, Try.func81, by decide +kernel, rfl⟩
instance : FnB Try.prog 82 := ⟨_, Try.func82, by decide +kernel, rfl⟩
instance : FnB Try.prog 83 := ⟨_, Try.func83, by decide +kernel, rfl⟩
instance : FnB Try.prog 84 := ⟨_, Try.func84, by decide +kernel, rfl⟩
instance : FnB Try.prog 85 := ⟨_, Try.func85, by decide +kernel, rfl⟩
instance : FnB Try.prog 86 := ⟨_, Try.func86, by decide +kernel, rfl⟩
instance : FnB Try.prog 87 := ⟨_, Try.func87, by decide +kernel, rfl⟩
instance : FnB Try.prog 88 := ⟨_, Try.func88, by decide +kernel, rfl⟩
instance : FnB Try.prog 89 := ⟨_, Try.func89, by decide +kernel, rfl⟩
instance : FnB Try.prog 90 := ⟨_, Try.func90, by decide +kernel, rfl⟩
instance : FnB Try.prog 91 := ⟨_, Try.func91, by decide +kernel, rfl⟩
instance : FnB Try.prog 92 := ⟨_, Try.func92, by decide +kernel, rfl⟩
instance : FnB Try.prog 93 := ⟨_, Try.func93, by decide +kernel, rfl⟩
instance : FnB Try.prog 94 := ⟨_, Try.func94, by decide +kernel, rfl⟩
instance : FnB Try.prog 95 := ⟨_, Try.func95, by decide +kernel, rfl⟩
instance : FnB Try.prog 96 := ⟨_, Try.func96, by decide +kernel, rfl⟩
instance : FnB Try.prog 97 := ⟨_, Try.func97, by decide +kernel, rfl⟩
instance : FnB Try.prog 98 := ⟨_, Try.func98, by decide +kernel, rfl⟩
instance : FnB Try.prog 99 := ⟨_, Try.func99, by decide +kernel, rfl⟩
instance : FnB Try.prog 100 := ⟨_, Try.func100, by decide +kernel, rfl⟩
instance : FnB Try.prog 101 := ⟨_, Try.func101, by decide +kernel, rfl⟩
instance : FnB Try.prog 102 := ⟨_, Try.func102, by decide +kernel, rfl⟩
instance : FnB Try.prog 103 := ⟨_, Try.func103, by decide +kernel, rfl⟩
instance : FnB Try.prog 104 := ⟨_, Try.func104, by decide +kernel, rfl⟩
instance : FnB Try.prog 105 := ⟨_, Try.func105, by decide +kernel, rfl⟩
instance : FnB Try.prog 106 := ⟨_, Try.func106, by decide +kernel, rfl⟩
instance : FnB Try.prog 107 := ⟨_, Try.func107, by decide +kernel, rfl⟩
instance : FnB Try.prog 108 := ⟨_, Try.func108, by decide +kernel, rfl⟩
instance : FnB Try.prog 109 := ⟨_, Try.func109, by decide +kernel, rfl⟩
instance : FnB Try.prog 110 := ⟨_, Try.func110, by decide +kernel, rfl⟩
instance : FnB Try.prog 111 := ⟨_, Try.func111, by decide +kernel, rfl⟩
instance : FnB Try.prog 112 := ⟨_, Try.func112, by decide +kernel, rfl⟩
instance : FnB Try.prog 113 := ⟨_, Try.func113, by decide +kernel, rfl⟩
instance : FnB Try.prog 114 := ⟨_, Try.func114, by decide +kernel, rfl⟩
instance : FnB Try.prog 115 := ⟨_, Try.func115, by decide +kernel, rfl⟩
instance : FnB Try.prog 116 := ⟨_, Try.func116, by decide +kernel, rfl⟩
instance : FnB Try.prog 117 := ⟨_, Try.func117, by decide +kernel, rfl⟩
instance : FnB Try.prog 118 := ⟨_, Try.func118, by decide +kernel, rfl⟩
instance : FnB Try.prog 119 := ⟨_, Try.func119, by decide +kernel, rfl⟩
instance : FnB Try.prog 120 := ⟨_, Try.func120, by decide +kernel, rfl⟩
end Go.Proofs.Ytfkcbglnadjnnaa
/- Plain facts on 32-bit prefixes. No program in sight. -/
namespace Go.Pl

def clampN (n : Int) : Nat := (min (max n 0) 32).toNat
theorem clampN_le (n : Int) : clampN n ≤ 32 := by unfold clampN; omega
theorem clampN_int (n : Int) : min (max n 0) 32 = (clampN n : Int) := by unfold clampN; omega
def keepN (x c : Nat) : Nat := x / 2 ^ (32 - c) * 2 ^ (32 - c)

theorem land_high (x k : Nat) (hk : k ≤ 32) (hx : x < 2 ^ 32) : x &&& (2 ^ 32 - 2 ^ k) = x / 2 ^ k * 2 ^ k := by
  apply Nat.eq_of_testBit_eq
  intro i
  have e : 2 ^ 32 - 2 ^ k = (2 ^ (32 - k) - 1) <<< k := by
    rw [Nat.shiftLeft_eq, Nat.sub_mul, ← Nat.pow_add, Nat.one_mul, Nat.sub_add_cancel hk]
  rw [Nat.testBit_and, e, Nat.testBit_shiftLeft, Nat.testBit_two_pow_sub_one, ← Nat.shiftRight_eq_div_pow, ← Nat.shiftLeft_eq, Nat.testBit_shiftLeft, Nat.testBit_shiftRight]
  by_cases h : k ≤ i
  · by_cases h2 : i < 32
    · have : i - k < 32 - k := by omega
      simp [h, this, show k + (i - k) = i by omega]
    · have hb : x.testBit i = false := Nat.testBit_lt_two_pow (Nat.lt_of_lt_of_le hx (Nat.pow_le_pow_right (by omega) (by omega)))
      simp [h, hb, show k + (i - k) = i by omega]
  · simp [h]
theorem keepN_le (x c : Nat) : keepN x c ≤ x := Nat.div_mul_le_self _ _
theorem lor_low (q k r : Nat) (hr : r < 2 ^ k) : (q * 2 ^ k) ||| r = q * 2 ^ k + r := by
  rw [← Nat.shiftLeft_eq]; exact (Nat.shiftLeft_add_eq_or_of_lt hr q).symm
theorem mask_wrap (k : Nat) (hk : k ≤ 32) : (4294967295 * 2 ^ k) % 4294967296 = 4294967296 - 2 ^ k := by
  have h1 : 2 ^ k ≤ 2 ^ 32 := Nat.pow_le_pow_right (by omega) hk
  have h2 : 0 < 2 ^ k := Nat.two_pow_pos k
  have e : 4294967295 * 2 ^ k = (2 ^ k - 1) * 4294967296 + (4294967296 - 2 ^ k) := by
    have : (2 ^ k - 1) * 4294967296 = 2 ^ k * 4294967296 - 4294967296 := by rw [Nat.sub_mul, Nat.one_mul]
    omega
  rw [e, Nat.mul_comm, Nat.mul_add_mod]
  exact Nat.mod_eq_of_lt (by omega)
end Go.Pl
namespace Go.Pl
theorem keep_succ (x i : Nat) (h : i < 32) : keepN x i ||| (x / 2 ^ (31 - i) % 2 * 2 ^ (31 - i)) = keepN x (i + 1) := by
  unfold keepN
  have e1 : 32 - (i + 1) = 31 - i := by omega
  have e2 : 32 - i = (31 - i) + 1 := by omega
  rw [e1, e2]
  generalize 31 - i = k
  have hlt : x / 2 ^ k % 2 * 2 ^ k < 2 ^ (k + 1) := by
    rw [Nat.pow_succ, Nat.mul_comm (2 ^ k) 2]
    exact Nat.mul_lt_mul_of_pos_right (Nat.mod_lt _ (by omega)) (Nat.two_pow_pos k)
  rw [lor_low _ _ _ hlt]
  have e3 : x / 2 ^ (k + 1) = x / 2 ^ k / 2 := by rw [Nat.pow_succ, Nat.div_div_eq_div_mul]
  rw [e3, Nat.pow_succ]
  generalize x / 2 ^ k = q
  have := Nat.div_add_mod q 2
  have e4 : q / 2 * (2 ^ k * 2) = (2 * (q / 2)) * 2 ^ k := by rw [Nat.mul_comm (2 ^ k) 2, ← Nat.mul_assoc, Nat.mul_comm (q / 2) 2]
  rw [e4, ← Nat.add_mul, this]
theorem keep_zero (x : Nat) (hx : x < 2 ^ 32) : keepN x 0 = 0 := by
  unfold keepN; rw [Nat.sub_zero, Nat.div_eq_of_lt hx, Nat.zero_mul]
end Go.Pl
/- Prefixes and what the functions on one prefix compute. No program in sight. -/
namespace Go.Pl
open Go.RT
structure Pfx where
  addr : Nat
  len : Int
  deriving DecidableEq
def Pfx.ok (p : Pfx) : Prop := p.addr < 2 ^ 32 ∧ inr .i64 p.len
def encP (p : Pfx) : List FV := [If .u32 p.addr, If .i64 p.len]
abbrev VP (l : List Pfx) : FV := .vals 2 (l.map encP)
def validB (p : Pfx) : Bool := decide (0 ≤ p.len) && decide (p.len ≤ 32) && decide ((keepN p.addr (clampN p.len) : Int) = p.addr)
theorem eqFs_encP (p q : Pfx) : eqFs (encP p) (encP q) = decide (p = q) := by
  obtain ⟨a, b⟩ := p; obtain ⟨c, d⟩ := q
  simp [eqFs, encP, If]
  by_cases h1 : a = c <;> by_cases h2 : b = d <;> simp [h1, h2] <;> omega
/-- the number of host bits -/
def hob (p : Pfx) : Nat := 32 - clampN p.len
def sz (p : Pfx) : Nat := 2 ^ hob p
end Go.Pl
/- Graphs, their edges, and what the functions on them compute. No program in sight. -/
namespace Go.Pl
open Go.RT
set_option linter.all false
def cmpI (a b : Int) : Int := if a < b then -1 else if a > b then 1 else 0
instance (k : IntKind) (n : Int) : Decidable (inr k n) := by cases k <;> unfold inr <;> infer_instance
structure Edg where
  f : Int
  t : Int
  c : Int
  deriving DecidableEq
structure Gr where
  r : Int
  n : Int
  es : List Edg
  deriving DecidableEq
def encN (x : Int) : List FV := [If .i64 x]
abbrev VI (l : List Int) : FV := .vals 1 (l.map encN)
theorem row_at' {α : Type} (f : α → List FV) (l : List α) (i : Nat) (h : i < l.length) : (l.map f)[i]? = some (f l[i]) := by simp [h]
theorem take_len_eq' {α : Type} {l : List α} {i : Nat} (h : i = l.length) : l.take i = l := by subst h; exact List.take_length
end Go.Pl
/- Routes of a table and what the functions on them compute. No program in sight. -/
namespace Go.Pl
open Go Go.RT
set_option linter.all false
structure Hop where
  ad : Int
  ifc : Int
  ro : Int
  we : Int
  via : Pfx
  deriving DecidableEq
structure Rte where
  pf : Pfx
  pr : Int
  di : Int
  me : Int
  tg : Int
  hs : List Hop
  deriving DecidableEq
def outB (n lo hi : Int) : Bool := decide (n < lo) || decide (hi < n)
/-- the first that is not 0 -/
def fst3 (a b c : Int) : Int := if a ≠ 0 then a else if b ≠ 0 then b else c
def cmpP (p q : Pfx) : Int := if (decide (p.addr < q.addr) || decide (p.addr = q.addr) && decide (p.len < q.len)) = true then -1 else if p = q then 0 else 1
def cmpHo (a b : Hop) : Int := fst3 (cmpI a.ad b.ad) (cmpI a.ifc b.ifc) (cmpI a.ro b.ro)
def cmpRt (a b : Rte) : Int := fst3 (cmpP a.pf b.pf) (cmpI a.di b.di) (cmpI a.pr b.pr)
def badHo : Option Hop → Hop → Bool
  | none, _ => false
  | some q, h => decide (0 ≤ cmpHo q h)
def hopE (h : Hop) : Int := if (outB h.ifc (-1) 15 || outB h.we 1 255) = true then 5 else if (!validB h.via) = true then 1 else 0
def hopsGo : Option Hop → List Hop → Int
  | _, [] => 0
  | p, h :: t => if hopE h ≠ 0 then hopE h else if badHo p h = true then 16 else hopsGo (some h) t
def checkRt (r : Rte) : Int :=
  if (!validB r.pf) = true then 1 else
  if outB r.pr 1 7 = true then 15 else
  if (outB r.di 0 255 || outB r.me 0 16777216 || outB r.tg 0 4294967295) = true then 5 else
  if 64 < r.hs.length then 4 else hopsGo none r.hs
def hasB (l : List Rte) (p : Pfx) (n : Int) : Bool := l.any fun x => decide (x.pf = p) && decide (x.pr = n)
def badRt : Option Rte → Rte → Bool
  | none, _ => false
  | some q, x => decide (0 ≤ cmpRt q x)
def chkGo (l : List Rte) : List Rte → List Rte → Int
  | _, [] => 0
  | s, x :: t => if checkRt x ≠ 0 then checkRt x else if hasB s x.pf x.pr = true then 7 else if badRt s.getLast? x = true then 16 else chkGo l (s ++ [x]) t
def checkL (l : List Rte) : Int := if 2000 < l.length then 4 else chkGo l [] l
def befR (r x : Rte) : Bool := decide (cmpRt x r < 0)
def insRt (r : Rte) (l : List Rte) : List Rte := l.takeWhile (befR r) ++ r :: l.dropWhile (befR r)
def actGo : Option Pfx → List Rte → List Rte
  | _, [] => []
  | p, x :: t => (if p = some x.pf then [] else [x]) ++ actGo (some x.pf) t
def activeF (l : List Rte) : List Rte := if checkL l ≠ 0 then [] else actGo none l
/-- a list of active routes, or nothing -/
def listF (l : List Rte) : List Rte := if (activeF l).length < l.length then [] else l
end Go.Pl
/- Lists of edges and numbers: what the reference's loops compute. -/
namespace Go.Pl
open Go.RT
set_option linter.all false
end Go.Pl
/- Runs of equal elements cut to one. -/
namespace Go.Pl
set_option linter.all false
def ddF {α : Type} (eq : α → α → Bool) : α → List α → List α
  | _, [] => []
  | p, x :: l => bif eq x p then ddF eq x l else x :: ddF eq x l
def compL {α : Type} (eq : α → α → Bool) : List α → List α
  | [] => []
  | x :: l => x :: ddF eq x l
def lastD {α : Type} : α → List α → α
  | p, [] => p
  | _, x :: l => lastD x l
theorem ddF_snoc {α : Type} (eq : α → α → Bool) (y : α) : ∀ (l : List α) (p : α), ddF eq p (l ++ [y]) = ddF eq p l ++ bif eq y (lastD p l) then [] else [y]
  | [], p => by simp [ddF, lastD]
  | x :: l, p => by
    simp only [List.cons_append, ddF, lastD, ddF_snoc eq y l x]
    cases eq x p <;> simp
theorem lastD_get {α : Type} : ∀ (l : List α) (p : α) , (p :: l)[l.length]? = some (lastD p l)
  | [], p => rfl
  | x :: l, p => by simpa [lastD] using lastD_get l x
theorem ddF_len {α : Type} (eq : α → α → Bool) : ∀ (l : List α) (p : α), (ddF eq p l).length ≤ l.length
  | [], _ => by simp [ddF]
  | x :: l, p => by
    have := ddF_len eq l x
    simp only [ddF, List.length_cons]; cases eq x p <;> simp <;> omega
theorem compL_len {α : Type} (eq : α → α → Bool) (l : List α) : (compL eq l).length ≤ l.length := by
  cases l with
  | nil => simp [compL]
  | cons x l => have := ddF_len eq l x; simp [compL]; omega
/-- one element more -/
theorem compL_take {α : Type} (eq : α → α → Bool) (l : List α) (n : Nat) (h0 : 0 < n) (h : n < l.length) : compL eq (l.take (n + 1)) = compL eq (l.take n) ++ bif eq l[n] l[n - 1] then [] else [l[n]] := by
  cases l with
  | nil => simp at h
  | cons x l =>
    obtain ⟨m, rfl⟩ : ∃ m, n = m + 1 := ⟨n - 1, by omega⟩
    have hm : m < l.length := by simpa using h
    rw [List.take_succ_cons, List.take_succ_cons]
    simp only [compL]
    rw [List.take_succ_eq_append_getElem hm, ddF_snoc]
    have hl : lastD x (l.take m) = (x :: l)[m]'(by simp; omega) := by
      have h1 := lastD_get (l.take m) x
      have e : (l.take m).length = m := by simp; omega
      rw [e, ← List.take_succ_cons, List.getElem?_take, if_pos (by omega), List.getElem?_eq_getElem (by simp; omega)] at h1
      exact (Option.some.inj h1).symm
    rw [hl]
    simp
theorem compL_len_lt {α : Type} (eq : α → α → Bool) (l : List α) (n : Nat) (h0 : 0 < n) (h : n < l.length) (he : eq l[n] l[n - 1] = true) (j : Nat) (hj : n < j) (hjl : j ≤ l.length) : (compL eq (l.take j)).length < j := by
  obtain ⟨d, rfl⟩ : ∃ d, j = n + 1 + d := ⟨j - (n + 1), by omega⟩
  clear hj
  induction d with
  | zero =>
    rw [Nat.add_zero, compL_take eq l n h0 h, he, cond_true, List.append_nil]
    have := compL_len eq (l.take n)
    simp at this; omega
  | succ d ih =>
    have := ih (by omega)
    rw [← Nat.add_assoc, compL_take eq l (n + 1 + d) (by omega) (by omega), List.length_append]
    cases eq l[n + 1 + d] l[n + 1 + d - 1] <;> simp <;> omega
theorem compL_one {α : Type} (eq : α → α → Bool) (l : List α) (h : 0 < l.length) : compL eq (l.take 1) = l.take 1 := by
  cases l with
  | nil => simp at h
  | cons x l => simp [compL, ddF]
/-- writing at the end of what is kept -/
theorem set_kept {α : Type} (c l : List α) (x : α) (h : c.length < l.length) : (c ++ l.drop c.length).set c.length x = (c ++ [x]) ++ l.drop (c ++ [x]).length := by
  have e := List.drop_eq_getElem_cons h
  rw [List.set_append, if_neg (by omega), Nat.sub_self, e, List.set_cons_zero]
  simp
theorem kept_get {α : Type} (c l : List α) (j : Nat) (h : c.length ≤ j) : (c ++ l.drop c.length)[j]? = l[j]? := by
  rw [List.getElem?_append, if_neg (by omega), List.getElem?_drop]; congr 1; omega
theorem kept_len {α : Type} (c l : List α) (h : c.length ≤ l.length) : (c ++ l.drop c.length).length = l.length := by simp; omega
end Go.Pl
/- The kit's contract of slices.SortFunc, turned into one of the engine's. -/
namespace Go.RT
open Go Go.Proofs Go.Sort Go.Shelf
set_option linter.all false
theorem Mem.reheap {C : Cx} {H H' : Hp} {nx : Nat} {S : Nat → Prop} {m : Ids} {w : World} (k1 : Mem C H nx S m w) (hh : ∀ id, hlook H' id = hlook H id) : Mem C H' nx S m w :=
  ⟨k1.os, k1.tape, k1.output, k1.fz, k1.size, k1.frame, k1.le, k1.sub, k1.n0, fun id o h => k1.objs id o ((hh id).symm.trans h), fun id o b h => k1.blk id o b ((hh id).symm.trans h), fun a b o1 o2 bb h1 h2 => k1.inj a b o1 o2 bb ((hh a).symm.trans h1) ((hh b).symm.trans h2), k1.stab, k1.fresh, k1.nkeep (Le.refl _ _ _) (Nat.le_refl _) (fun _ _ _ _ _ _ h => h.of fun o h => (hh _).symm.trans h) (fun _ _ _ _ _ _ _ c e _ _ _ k2 k3 => ⟨c, e, k2, k3⟩) (fun b' _ h2 h3 => ⟨rfl, h2, fun id2 o2 h => h3 _ _ ((hh id2).symm.trans h)⟩)⟩
def grown (w : World) (os : Array Obj) (q : Nat) : World := { w with heap := w.heap ++ os, drawn := w.drawn + q }
theorem grown_old (w : World) (os : Array Obj) (q : Nat) {b : Nat} (hb : b < w.heap.size) : (grown w os q).heap[b]? = w.heap[b]? := by simp [grown, Array.getElem?_append, hb]
theorem Mem.grow {C : Cx} {H : Hp} {nx : Nat} {S : Nat → Prop} {m : Ids} {w : World} (hm : Mem C H nx S m w) (os : Array Obj) (q : Nat) : Mem C H nx S m (grown w os q) ∧ Le S m w S m (grown w os q) := by
  have hsz : w.heap.size ≤ (grown w os q).heap.size := by simp [grown]
  have hle : Le S m w S m (grown w os q) := by
    refine ⟨fun _ h => h, fun b hb => grown_old w os q (hm.stab b hb), fun _ _ h => h, fun b n ⟨c, e, fr, h1, h2⟩ => ⟨c, e, fr, ?_, h2⟩⟩
    rw [grown_old w os q (Array.getElem?_eq_some_iff.1 h1).1]; exact h1
  refine ⟨hm.step hle ⟨rfl, Nat.le_add_right _ _⟩ rfl rfl (fun a ha => ?_) hsz (fun b hb _ => grown_old w os q (Nat.lt_of_lt_of_le hb hm.size)) (fun b hb => .inl hb) (fun id o ho => (hm.objs id o ho).mono hle fun b hb => grown_old w os q (hm.blk id o b ho hb).2.1)
    (fun id o b ho hb => ?_) hm.inj (fun b hb => Nat.lt_of_lt_of_le (hm.stab b hb) hsz) hm.fresh (hm.nkeep hle hsz (fun _ _ _ _ _ _ h => h) (fun id sz i j isz irows b2 c2 e2 u _ _ q2 q3 => ⟨c2, e2, (grown_old w os q (Array.getElem?_eq_some_iff.1 q2).1).trans q2, q3⟩) (fun b' h1 h2 h3 => ⟨grown_old w os q h1, h2, h3⟩)), hle⟩
  · simp only [World.frozen?, grown_old w os q ha]
  · obtain ⟨h1, h2, h3⟩ := hm.blk id o b ho hb
    exact ⟨h1, Nat.lt_of_lt_of_le h2 hsz, h3⟩
theorem mapBlock_setRow {w : World} {b : Nat} {c : Array Value} {e : TypeId} {fr : Nat × Nat} (f : Array Value → Array Value) (hc : w.heap[b]? = some (.cells c e fr)) : mapBlock w b f = w.setRow b (f c) := by
  unfold mapBlock World.setRow
  congr 1
  apply Array.ext_getElem?
  intro i
  simp only [Array.getElem?_modify]
  by_cases h : b = i
  · subst h
    simp [hc, onCells]
  · simp [h]
/-- a run that owns nothing: what it leaves is the world it found, grown -/
theorem Mem.is_grown {C : Cx} {nx : Nat} {S : Nat → Prop} {m : Ids} {w : World} (hm : Mem C [] nx S m w) (ho : ∀ b, ¬ C.own0 b) : ∃ q os, w = grown C.w0 os q := by
  refine ⟨w.drawn - C.w0.drawn, w.heap.extract C.w0.heap.size w.heap.size, ?_⟩
  have h1 : w.heap = C.w0.heap ++ w.heap.extract C.w0.heap.size w.heap.size := by
    apply Array.ext_getElem?
    intro i
    by_cases hi : i < C.w0.heap.size
    · rw [Array.getElem?_append_left hi]; exact hm.frame i hi (ho i)
    · rw [Array.getElem?_append_right (by omega), Array.getElem?_extract]
      have := hm.size
      by_cases h2 : i < w.heap.size
      · rw [if_pos (by simp; omega)]; congr 1; omega
      · rw [if_neg (by simp; omega)]; exact Array.getElem?_eq_none (by omega)
  have h2 : w.drawn = C.w0.drawn + (w.drawn - C.w0.drawn) := by have := hm.os.2; omega
  obtain ⟨heap, tape, drawn, os, output⟩ := w
  unfold grown
  simp only at h1 h2
  have e1 := hm.tape; have e2 := hm.os.1; have e3 := hm.output
  simp only at e1 e2 e3
  subst e1 e2 e3
  simp only [World.mk.injEq, true_and, and_true]
  exact ⟨h1, h2⟩
/-- what slices.SortFunc leaves -/
def sortBy {β : Type} [Inhabited β] (cf : β → β → Int) (l : List β) : List β := (pdq (ltOf cf) l.toArray 0 l.length (Lib.bitLen l.length) true true).toList
theorem sortBy_spec {β : Type} [Inhabited β] (cf : β → β → Int) (hO : SWO (ltOf cf)) (l : List β) : (sortBy cf l).Perm l ∧ (sortBy cf l).length = l.length ∧ ∀ (i j : Nat) (x y : β), i < j → (sortBy cf l)[i]? = some x → (sortBy cf l)[j]? = some y → ¬ cf y x < 0 := by
  have h := pdq_sorts (ltOf cf) hO l.toArray 0 l.length (Lib.bitLen l.length) true true (Nat.zero_le _) (by simp) (Or.inl rfl)
  obtain ⟨⟨p1, p2, p3⟩, p4⟩ := h
  have e : (sortBy cf l).length = l.length := by simpa [sortBy] using p1
  refine ⟨?_, e, fun i j x y hij hx hy => ?_⟩
  · have : ∀ (a : Array β) n, a.size = n → a.extract 0 n = a := fun a n hn => by subst hn; simp
    rw [this _ _ (by simpa using p1), this _ _ (by simp)] at p3
    simpa [sortBy] using p3
  · have hj : j < l.length := by rw [← e]; exact (List.getElem?_eq_some_iff.1 hy).1
    have hj' : j < (pdq (ltOf cf) l.toArray 0 l.length (Lib.bitLen l.length) true true).size := by rw [p1]; simpa using hj
    have := p4 i j (Nat.zero_le _) hij hj
    rw [getElem!_pos _ j hj', getElem!_pos _ i (by omega)] at this
    simp only [sortBy, Array.getElem?_toList] at hx hy
    rw [Array.getElem?_eq_getElem (by omega)] at hx hy
    cases hx; cases hy
    simpa [ltOf] using this
theorem cells_of_rows {w : World} {S : Nat → Prop} {c : Array Value} {k : Nat} {β : Type} [Inhabited β] {ev : β → List Value} (hk0 : 0 < k) (hlen : ∀ x, (ev x).length = k) {l : List β} (h : RowsRep (FRep w S) c k (l.map fun x => (ev x).map FV.lit)) :
    l.length * k ≤ c.size ∧ ∀ j, j < l.length * k → c[j]? = some (flatK ev k l.toArray)[j]! := by
  refine ⟨by simpa using h.1, fun j hj => ?_⟩
  have hd : j / k < l.length := Nat.div_lt_of_lt_mul (by rwa [Nat.mul_comm] at hj)
  have hm := Nat.mod_lt j hk0
  rw [get_flatK _ _ _ _ (by simpa using hj)]
  have hx : (l.map fun x => (ev x).map FV.lit)[j / k]? = some ((ev l[j / k]).map FV.lit) := by simp [hd]
  have hlk : j % k < (ev l[j / k]).length := by rw [hlen]; exact hm
  obtain ⟨u, hu, _, hr⟩ := h.2.2 (j / k) (j % k) _ (.lit (ev l[j / k])[j % k]) hx (by simp [hlk])
  have e : j / k * k + j % k = j := by rw [Nat.mul_comm]; exact Nat.div_add_mod j k
  rw [e] at hu
  rw [hu]
  cases hr
  rw [getElem!_pos _ (j / k) (by simpa using hd), getElem!_pos _ (j % k) (by simpa using hlk)]
  simp
variable {P : Program} {ρ : Ren}
theorem cmp_lays {g k : Nat} {β : Type} [Inhabited β] {ev : β → List Value} (h1 : ∀ x, ∀ v ∈ ev x, v.oneCell' = true) {cf : β → β → Int} (hc : ∀ x y, Pure P g [.agg ((ev x).map .lit), .agg ((ev y).map .lit)] (If .i64 (cf x y))) (blk off size : Nat) (w : World) : CmpLays P g #[] ev k cf blk off size w := by
  intro m os dk _ x y
  generalize sortWorldK ev k w blk off m dk os = W
  let C : Cx := ⟨W, fun _ => False, fun _ => False, fun _ => none, 0, []⟩
  have hm : Mem C [] 0 C.S0 C.m0 C.w0 := ⟨⟨rfl, Nat.le_refl _⟩, rfl, rfl, fun _ _ => rfl, Nat.le_refl _, fun _ _ _ => rfl, Le.refl _ _ _, fun b h => .inl h, fun i x hx => (by cases hx), fun i o h => (by cases h), fun i o b h => (by cases h), fun i j o1 o2 b h => (by cases h), fun b hb => hb.elim, fun _ _ => rfl, nst_nil⟩
  have ag : ∀ z, FRep W (fun _ => False) (.agg (ev z).toArray) (.agg ((ev z).map .lit)) := fun z => by
    refine .agg _ _ (by simp) (fun i c f hc hf => ?_) (fun i c hc => ?_)
    · simp only [List.getElem?_toArray] at hc
      rw [List.getElem?_map, hc] at hf
      cases hf; exact .lit _
    · simp only [List.getElem?_toArray] at hc
      exact h1 z c (List.mem_of_getElem? hc)
  have := (hc x y).run C [.agg (ev x).toArray, .agg (ev y).toArray] rfl hm rfl (fun i v p hi hp => by
    match i with
    | 0 => simp at hi hp; subst hi; subst hp; exact .fz _ _ (ag x)
    | 1 => simp at hi hp; subst hi; subst hp; exact .fz _ _ (ag y)
    | i + 2 => simp at hi)
  have h2 : Calls P g (#[.agg (ev x).toArray, .agg (ev y).toArray] ++ #[]) W (fun e w' => ∃ v S' m', e = .returned v ∧ Mem C [] 0 S' m' w' ∧ Rep w' S' m' v (.fz (If .i64 (cf x y)))) := by simpa using this
  refine h2.mono fun e w' ⟨v, S', m', he, hm', hr⟩ => ?_
  obtain ⟨q, os', hw⟩ := hm'.is_grown (fun b h => h)
  refine ⟨by rw [he]; cases hr with | fz _ _ h => cases h; rfl, q, os', hw⟩
theorem sort_meets (L : SlLaysF0.n6 P ρ) {k : Nat} (hk0 : 0 < k) (aE : ∀ w, (isAgg (ρ.t 24)).run P w = .ok true w) (zE : ∀ w, (Go.sizeOf (ρ.t 24)).run P w = .ok k w) {β : Type} [Inhabited β] {ev : β → List Value} (hlen : ∀ x, (ev x).length = k) (h1 : ∀ x, ∀ v ∈ ev x, v.oneCell' = true) {cf : β → β → Int} (hO : SWO (ltOf cf)) {g : Nat} (hg : ∀ args w, (callFunc g args).run P w = .ok (.enter g args) w)
    (hc : ∀ x y, Pure P g [.agg ((ev x).map .lit), .agg ((ev y).map .lit)] (If .i64 (cf x y))) {l : List β} (hl : l.length < 4611686018427387904) :
    Meets P (ρ.f 6) [.sl 0 k 0 l.length, .clo g [] []] 1 [(0, some (.flat k (l.map fun x => (ev x).map .lit)))] (.fz (.tup [])) [(0, some (.flat k ((sortBy cf l).map fun x => (ev x).map .lit)))] 1 := by
  refine ⟨fun C vs hn hm hlv hr => ?_⟩
  have tupR : ∀ w' S' m', Rep w' S' m' (.tuple #[]) (.fz (.tup [])) := fun w' S' m' => .fz _ _ (.tup #[] [] rfl (fun i c f hc => by simp at hc))
  match vs, hlv, hr with
  | [v0, v1], _, hr =>
  have r0 := hr 0 v0 _ rfl rfl
  have r1 := hr 1 v1 _ rfl rfl
  have ho := hm.objs 0 _ rfl
  obtain ⟨hs1, hs2, _⟩ := sortBy_spec cf hO l
  cases r1 with
  | clo _ as' cs _ _ ha hcs _ _ =>
  have ea : as' = #[] := by simpa using ha
  have ec : cs = #[] := by simpa using hcs
  subst ea; subst ec
  generalize hll : l.length = n at r0 hl
  cases r0 with
  | sl0 =>
    have : l = [] := List.length_eq_zero_iff.1 hll
    subst this
    have e : sortBy cf ([] : List β) = [] := List.length_eq_zero_iff.1 hs2
    rw [e]
    refine (AnyF.slices_SortFunc_none L none 0 (.func (.func g) #[] #[]) C.w0).mono fun e w' ⟨he, hw⟩ => ?_
    subst hw
    exact ⟨_, _, _, he, hm, tupR _ _ _⟩
  | sl _ _ _ _ b cap h hroom hcap hmx =>
    rcases ho with ⟨h2, _⟩ | ⟨b', c, e, h2, h3, h4⟩
    · rw [h] at h2; cases h2
    · rw [h] at h2; cases h2
      obtain ⟨hsz, hcells⟩ := cells_of_rows hk0 hlen h4
      obtain ⟨hb1, hb2, hb3⟩ := hm.blk 0 _ b rfl h
      have hH : HoldsK ev k C.w0 b (0 * k) l.toArray := by
        intro j hj
        simp at hj
        refine ⟨?_, ?_⟩
        · simp only [World.cell?, h3, Nat.zero_mul, Nat.zero_add]
          simpa using hcells j hj
        · simp [World.frozen?, h3]
      have hcall := AnyQ.slices_SortFunc_eq L k aE zE ev hlen h1 cf hO g #[] b (0 * k) cap l.toArray C.w0 hg (cmp_lays h1 hc b (0 * k) l.toArray.size C.w0) hH hb2 (by simpa [hll] using hl)
      rw [show l.toArray.size = n by simpa using hll] at hcall
      refine hcall.mono fun ex w' ⟨he, q, os, hw⟩ => ?_
      subst hw
      have hls : l.toArray.size = n := by simpa using hll
      have hd : pdq (ltOf cf) l.toArray 0 n (Lib.bitLen n) true true = (sortBy cf l).toArray := by rw [← hll]; simp [sortBy]
      rw [hd]
      have hset : sortWorldK ev k C.w0 b (0 * k) q (sortBy cf l).toArray os = grown (C.w0.setRow b (putCells id 0 (flatK ev k (sortBy cf l).toArray) c)) os q := by
        unfold sortWorldK putRowK putRow
        rw [mapBlock_setRow (w := Go.Sort.ahead C.w0 q) (b := b) (c := c) (e := e) (fr := (0, 0)) _ h3, Nat.zero_mul]
        rfl
      rw [hset]
      have hps : (putCells id 0 (flatK ev k (sortBy cf l).toArray) c).size = c.size := by simp [putCells]
      have hrr : ∀ w' : World, RowsRep (FRep w' C.S0) (putCells id 0 (flatK ev k (sortBy cf l).toArray) c) k ((sortBy cf l).map fun x => (ev x).map FV.lit) := fun w' => by
        refine ⟨by rw [hps]; simpa [hs2] using hsz, fun r hr => ?_, fun i j r p hi hj => ?_⟩
        · obtain ⟨x, _, rfl⟩ := List.mem_map.1 hr
          simp [hlen]
        · rw [List.getElem?_map] at hi
          obtain ⟨x, hx, rfl⟩ := Option.map_eq_some_iff.1 hi
          rw [List.getElem?_map] at hj
          obtain ⟨v, hv, rfl⟩ := Option.map_eq_some_iff.1 hj
          have hjk : j < k := by rw [← hlen x]; exact (List.getElem?_eq_some_iff.1 hv).1
          have hin : i < (sortBy cf l).length := (List.getElem?_eq_some_iff.1 hx).1
          have hlt : i * k + j < (sortBy cf l).length * k := by
            calc i * k + j < i * k + k := by omega
              _ = (i + 1) * k := by rw [Nat.add_mul, Nat.one_mul]
              _ ≤ _ := Nat.mul_le_mul_right _ hin
          have hlt2 : i * k + j < c.size := by rw [hs2] at hlt; omega
          refine ⟨v, ?_, h1 x v (List.mem_of_getElem? hv), .lit v⟩
          have e1 : (i * k + j) / k = i := by rw [Nat.mul_comm, Nat.mul_add_div hk0, Nat.div_eq_of_lt hjk, Nat.add_zero]
          have e2 : (i * k + j) % k = j := by rw [Nat.mul_comm, Nat.mul_add_mod, Nat.mod_eq_of_lt hjk]
          have e3 : (flatK ev k (sortBy cf l).toArray)[i * k + j]! = v := by
            rw [get_flatK _ _ _ _ (by simpa using hlt), e1, e2]
            rw [List.getElem?_eq_getElem hin] at hx
            cases hx
            rw [getElem!_pos _ i (by simpa using hin)]
            have hjl : j < (ev (sortBy cf l)[i]).length := by rw [hlen]; exact hjk
            rw [List.getElem?_eq_getElem hjl] at hv
            cases hv
            simp [hjl]
          unfold putCells
          rw [Array.getElem?_mapIdx, Array.getElem?_eq_getElem hlt2]
          simp only [Option.map_some, Nat.zero_le, true_and, Nat.zero_add, size_flatK, List.size_toArray, Nat.sub_zero, id]
          rw [if_pos hlt, e3]
      obtain ⟨m1, hle1⟩ := hm.write (id := 0) (o' := .flat k ((sortBy cf l).map fun x => (ev x).map .lit)) rfl h h3 hps (plain_hown (by exact trivial)) (fun w' hle hb => .inr ⟨b, _, e, h, hb, hrr w'⟩)
      refine ⟨_, _, _, he, ((m1.reheap (H' := [(0, some (.flat k ((sortBy cf l).map fun x => (ev x).map .lit)))]) (fun id => ?_)).grow os q).1, tupR _ _ _⟩
      simp only [hlook]
      cases Nat.beq 0 id <;> rfl
end Go.RT
/- Sorted lists of numbers. -/
namespace Go.RT
open Go
set_option linter.all false
def srtI (l : List Int) : List Int := l.mergeSort fun x y => decide (x ≤ y)
theorem srtI_perm (l : List Int) : (srtI l).Perm l := List.mergeSort_perm l _
theorem srtI_sorted (l : List Int) : (srtI l).Pairwise (fun x y => x ≤ y) := by
  have := List.pairwise_mergeSort (le := fun x y : Int => decide (x ≤ y)) (fun a b c h1 h2 => by simp at h1 h2 ⊢; omega) (fun a b => by simp; omega) l
  exact this.imp (fun h => by simpa using h)
end Go.RT
/- The nodes to which edges lead: sorted and cut, or put in one by one. -/
namespace Go.Pl
open Go.RT
set_option linter.all false
abbrev eqI (x y : Int) : Bool := decide (x = y)
def tosL (n : Int) (l : List Edg) : List Int := (l.filter fun e => decide (e.f = n)).map (·.t)
def Asc (l : List Int) : Prop := l.Pairwise (fun x y => x < y)
theorem ddF_asc : ∀ (l : List Int) (p : Int), (p :: l).Pairwise (fun x y => x ≤ y) → Asc (p :: ddF eqI p l) ∧ ∀ x, x ∈ p :: ddF eqI p l ↔ x ∈ p :: l
  | [], p, _ => ⟨by simp [Asc, ddF], fun x => by simp [ddF]⟩
  | y :: l, p, h => by
    obtain ⟨h1, h2⟩ := List.pairwise_cons.1 h
    obtain ⟨i1, i2⟩ := ddF_asc l y h2
    have hpy := h1 y (List.mem_cons_self ..)
    simp only [ddF]
    by_cases e : y = p
    · subst e
      simp only [eqI, decide_true, cond_true]
      refine ⟨i1, fun x => ?_⟩
      rw [i2]; simp
    · have : eqI y p = false := by simp [eqI, e]
      rw [this, cond_false]
      refine ⟨List.pairwise_cons.2 ⟨fun z hz => ?_, i1⟩, fun x => ?_⟩
      · have := (i2 z).1 hz
        rcases List.mem_cons.1 this with rfl | hz
        · omega
        · have := (List.pairwise_cons.1 h2).1 z hz; omega
      · rw [List.mem_cons, i2, List.mem_cons]; simp
theorem comp_asc {l : List Int} (h : l.Pairwise (fun x y => x ≤ y)) : Asc (compL eqI l) ∧ ∀ x, x ∈ compL eqI l ↔ x ∈ l := by
  cases l with
  | nil => exact ⟨by simp [Asc, compL], fun x => by simp [compL]⟩
  | cons p l => exact ddF_asc l p h
def nextI (n : Int) (l : List Edg) : List Int := compL eqI (srtI (tosL n l))
theorem nextI_spec (n : Int) (l : List Edg) : Asc (nextI n l) ∧ ∀ x, x ∈ nextI n l ↔ ∃ e ∈ l, e.f = n ∧ e.t = x := by
  obtain ⟨h1, h2⟩ := comp_asc (srtI_sorted (tosL n l))
  refine ⟨h1, fun x => ?_⟩
  show x ∈ compL eqI _ ↔ _
  rw [h2, (srtI_perm _).mem_iff]
  simp [tosL, and_assoc]
end Go.Pl
/- The valid graph of edges: sorted, of several edges between the same nodes the cheapest. -/
namespace Go.Pl
open Go.RT Go.Shelf Go.Proofs
set_option linter.all false
instance : Inhabited Edg := ⟨⟨0, 0, 0⟩⟩
theorem cmpI_neg (a b : Int) : cmpI a b < 0 ↔ a < b := by unfold cmpI; split <;> (try split) <;> omega
theorem cmpI_zero (a b : Int) : cmpI a b = 0 ↔ a = b := by unfold cmpI; split <;> (try split) <;> omega
/-- strictly ascending by their ends -/
def ltK (a b : Edg) : Prop := a.f < b.f ∨ a.f = b.f ∧ a.t < b.t
def AscK (l : List Edg) : Prop := l.Pairwise ltK
/-- the cheapest edge of each pair of ends, ascending -/
structure Least (l s : List Edg) : Prop where
  asc : AscK s
  sub : ∀ e ∈ s, e ∈ l
  min : ∀ e ∈ s, ∀ e' ∈ l, e'.f = e.f → e'.t = e.t → e.c ≤ e'.c
  all : ∀ e' ∈ l, ∃ e ∈ s, e.f = e'.f ∧ e.t = e'.t
end Go.Pl
/- The order of routes; valid tables. No program in sight. -/
namespace Go.Pl
open Go Go.RT
set_option linter.all false
def ltPf (p q : Pfx) : Prop := p.addr < q.addr ∨ p.addr = q.addr ∧ p.len < q.len
theorem Pfx.ext' {p q : Pfx} (h1 : p.addr = q.addr) (h2 : p.len = q.len) : p = q := by
  cases p; cases q; simp only at h1 h2; subst h1; subst h2; rfl
theorem cmpP_neg (p q : Pfx) : cmpP p q < 0 ↔ ltPf p q := by
  unfold cmpP ltPf
  by_cases c : (decide (p.addr < q.addr) || decide (p.addr = q.addr) && decide (p.len < q.len)) = true
  · rw [if_pos c]; simp at c; simp; omega
  · rw [if_neg c]; simp at c
    constructor
    · intro h; split at h <;> omega
    · intro h; omega
theorem cmpP_zero (p q : Pfx) : cmpP p q = 0 ↔ p = q := by
  unfold cmpP
  by_cases c : (decide (p.addr < q.addr) || decide (p.addr = q.addr) && decide (p.len < q.len)) = true
  · rw [if_pos c]; simp at c
    constructor
    · intro h; cases h
    · intro h; subst h; omega
  · rw [if_neg c]
    by_cases h : p = q
    · simp [h]
    · simp [h]
theorem fst3_neg (a b c : Int) : fst3 a b c < 0 ↔ a < 0 ∨ a = 0 ∧ (b < 0 ∨ b = 0 ∧ c < 0) := by
  unfold fst3
  split
  · omega
  · split <;> omega
def ltRt (a b : Rte) : Prop := ltPf a.pf b.pf ∨ a.pf = b.pf ∧ (a.di < b.di ∨ a.di = b.di ∧ a.pr < b.pr)
theorem cmpRt_neg (a b : Rte) : cmpRt a b < 0 ↔ ltRt a b := by
  unfold cmpRt ltRt
  rw [fst3_neg, cmpP_neg, cmpP_zero, cmpI_neg, cmpI_zero, cmpI_neg]
theorem pf_tri (p q : Pfx) : ltPf p q ∨ p = q ∨ ltPf q p := by
  unfold ltPf
  by_cases h1 : p.addr = q.addr
  · by_cases h2 : p.len = q.len
    · exact .inr (.inl (Pfx.ext' h1 h2))
    · omega
  · omega
theorem ltPf.trans {a b c : Pfx} (h1 : ltPf a b) (h2 : ltPf b c) : ltPf a c := by unfold ltPf at *; omega
theorem ltPf.irr {a : Pfx} (h : ltPf a a) : False := by unfold ltPf at h; omega
theorem ltRt.trans {a b c : Rte} (h1 : ltRt a b) (h2 : ltRt b c) : ltRt a c := by
  unfold ltRt at *
  rcases h1 with h1 | ⟨e1, h1⟩ <;> rcases h2 with h2 | ⟨e2, h2⟩
  · exact .inl (h1.trans h2)
  · exact .inl (e2 ▸ h1)
  · exact .inl (e1 ▸ h2)
  · exact .inr ⟨e1.trans e2, by omega⟩
theorem ltRt.irr {a : Rte} (h : ltRt a a) : False := by
  unfold ltRt at h
  rcases h with h | ⟨_, h⟩
  · exact h.irr
  · omega
theorem rt_tri (a b : Rte) : ltRt a b ∨ (a.pf = b.pf ∧ a.di = b.di ∧ a.pr = b.pr) ∨ ltRt b a := by
  unfold ltRt
  rcases pf_tri a.pf b.pf with h | h | h
  · exact .inl (.inl h)
  · have := h.symm
    by_cases h1 : a.di = b.di
    · by_cases h2 : a.pr = b.pr
      · exact .inr (.inl ⟨h, h1, h2⟩)
      · rcases Int.lt_or_gt_of_ne h2 with k | k
        · exact .inl (.inr ⟨h, .inr ⟨h1, k⟩⟩)
        · exact .inr (.inr (.inr ⟨this, .inr ⟨h1.symm, k⟩⟩))
    · rcases Int.lt_or_gt_of_ne h1 with k | k
      · exact .inl (.inr ⟨h, .inl k⟩)
      · exact .inr (.inr (.inr ⟨this, .inl k⟩))
  · exact .inr (.inr (.inl h))
def sameK (a b : Rte) : Prop := a.pf = b.pf ∧ a.pr = b.pr
/-- a valid table -/
structure TabOk (l : List Rte) : Prop where
  len : l.length ≤ 2000
  chk : ∀ x ∈ l, checkRt x = 0
  asc : l.Pairwise ltRt
  uni : l.Pairwise fun a b => ¬ sameK a b
theorem hasB_iff {l : List Rte} {p : Pfx} {n : Int} : hasB l p n = true ↔ ∃ x ∈ l, x.pf = p ∧ x.pr = n := by
  simp [hasB, List.any_eq_true]
theorem chk_iff (l : List Rte) : ∀ (t s : List Rte), chkGo l s t = 0 ↔ (∀ x ∈ t, checkRt x = 0) ∧ t.Pairwise ltRt ∧ (t.Pairwise fun a b => ¬ sameK a b) ∧ (∀ x ∈ t, ∀ q, s.getLast? = some q → ltRt q x) ∧ ∀ x ∈ t, ∀ y ∈ s, ¬ sameK y x
  | [], s => by simp [chkGo]
  | x :: t, s => by
    simp only [chkGo]
    by_cases h1 : checkRt x ≠ 0
    · rw [if_pos h1]
      exact ⟨fun h => absurd h h1, fun h => absurd (h.1 x (List.mem_cons_self ..)) h1⟩
    rw [if_neg h1]
    by_cases h2 : hasB s x.pf x.pr = true
    · rw [if_pos h2]
      obtain ⟨y, hy, k1, k2⟩ := hasB_iff.1 h2
      exact ⟨fun h => (by cases h), fun h => absurd ⟨k1, k2⟩ (h.2.2.2.2 x (List.mem_cons_self ..) y hy)⟩
    rw [if_neg h2]
    have hno : ∀ y ∈ s, ¬ sameK y x := fun y hy k => h2 (hasB_iff.2 ⟨y, hy, k⟩)
    by_cases h3 : badRt s.getLast? x = true
    · rw [if_pos h3]
      refine ⟨fun h => (by cases h), fun h => ?_⟩
      cases hs : s.getLast? with
      | none => rw [hs] at h3; cases h3
      | some q =>
        rw [hs] at h3
        have := h.2.2.2.1 x (List.mem_cons_self ..) q hs
        rw [← cmpRt_neg] at this
        simp only [badRt, decide_eq_true_eq] at h3
        omega
    rw [if_neg h3]
    have hlt : ∀ q, s.getLast? = some q → ltRt q x := fun q hq => by
      rw [hq] at h3
      rw [← cmpRt_neg]
      simp only [badRt, decide_eq_true_eq] at h3
      omega
    rw [chk_iff l t (s ++ [x])]
    simp only [List.getLast?_append, List.getLast?_singleton, Option.some_or, Option.some.injEq, List.mem_append, List.mem_singleton]
    constructor
    · rintro ⟨a1, a2, a3, a4, a5⟩
      refine ⟨fun y hy => ?_, List.pairwise_cons.2 ⟨fun y hy => a4 y hy x rfl, a2⟩, List.pairwise_cons.2 ⟨fun y hy => a5 y hy x (.inr rfl), a3⟩, fun y hy q hq => ?_, fun y hy z hz => ?_⟩
      · rcases List.mem_cons.1 hy with rfl | hy
        · simpa using h1
        · exact a1 y hy
      · rcases List.mem_cons.1 hy with rfl | hy
        · exact hlt q hq
        · exact (hlt q hq).trans (a4 y hy x rfl)
      · rcases List.mem_cons.1 hy with rfl | hy
        · exact hno z hz
        · exact a5 y hy z (.inl hz)
    · rintro ⟨a1, a2, a3, a4, a5⟩
      obtain ⟨b1, b2⟩ := List.pairwise_cons.1 a2
      obtain ⟨c1, c2⟩ := List.pairwise_cons.1 a3
      refine ⟨fun y hy => a1 y (List.mem_cons_of_mem _ hy), b2, c2, fun y hy q hq => hq ▸ b1 y hy, fun y hy z hz => ?_⟩
      rcases hz with hz | rfl
      · exact a5 y (List.mem_cons_of_mem _ hy) z hz
      · exact c1 y hy
theorem check_iff (l : List Rte) : checkL l = 0 ↔ TabOk l := by
  unfold checkL
  by_cases h : 2000 < l.length
  · rw [if_pos h]
    exact ⟨fun k => (by cases k), fun k => by have := k.len; omega⟩
  · rw [if_neg h, chk_iff l l []]
    constructor
    · rintro ⟨a1, a2, a3, _, _⟩; exact ⟨by omega, a1, a2, a3⟩
    · rintro ⟨_, a1, a2, a3⟩; exact ⟨a1, a2, a3, fun x _ q hq => by simp at hq, fun x _ y hy => by simp at hy⟩
end Go.Pl
namespace Go.Proofs.Ytfkcbglnadjnnaa
open Go Go.RT Go.Proofs Go.Pl
set_option linter.all false
set_option maxRecDepth 20000
theorem nan_c (a : Int) : Pure Try.prog 82 [If .i64 a] (Bf false) := by
  rw [show (false) = decide (a ≠ a) by simp]
  refine Meets.intro Try.func82 rfl (Nat.le_of_ble_eq_true rfl) fun C hC => ?_
  simp only [List.map, argEnv, Nat.reduceAdd]
  refine nK ?_
  refine s_reg rfl ?_
  refine Run.pure (dd := some 2) rfl rfl (op_assign rfl (Opd.const _)) ?_
  refine Run.nil (FinR.mk ?_)
  refine nK ?_
  refine s_reg rfl ?_
  refine Run.pure (dd := some 3) rfl rfl (op_move rfl (Opd.tmp _ _ rfl)) ?_
  refine Run.pure (dd := some 4) rfl rfl (op_move rfl (Opd.tmp _ _ rfl)) ?_
  refine Run.pure (dd := some 5) rfl rfl (op_neq rfl (Opd.tmp _ _ rfl) (Opd.tmp _ _ rfl)) ?_
  refine Run.pure (dd := some 2) rfl rfl (op_assign rfl (Opd.tmp _ _ rfl)) ?_
  refine Run.nil (FinR.mk ?_)
  refine nK ?_
  (first | exact s_o1 hC rfl tV | exact s_o2 hC rfl tV tV | exact s_o3 hC rfl tV tV tV | exact s_o4 hC rfl tV tV tV tV | exact s_out0 hC rfl | exact s_outO hC rfl rfl rfl)
theorem cmp_c (a b : Int) : Pure Try.prog 55 [If .i64 a, If .i64 b] (If .i64 (cmpI a b)) := by
  refine Meets.intro Try.func55 rfl (Nat.le_of_ble_eq_true rfl) fun C hC => ?_
  simp only [List.map, argEnv, Nat.reduceAdd]
  refine nK ?_
  refine s_reg rfl ?_
  refine Run.pure (dd := some 4) rfl rfl (op_assign rfl (Opd.const _)) ?_
  refine Run.nil (FinR.mk ?_)
  refine nK ?_
  refine s_reg rfl ?_
  refine Run.pure (dd := some 7) rfl rfl (op_move rfl (Opd.tmp _ _ rfl)) ?_
  refine Run.pure (dd := some 8) rfl rfl (op_call_pure (fun _ => nan_c _) rfl (Opd.func _) (Opds.cons _ _ _ _ (Opd.tmp _ _ rfl) Opds.nil)) ?_
  refine Run.pure (dd := some 5) rfl rfl (op_assign rfl (Opd.tmp _ _ rfl)) ?_
  refine Run.nil (FinR.mk ?_)
  refine nK ?_
  refine s_reg rfl ?_
  refine Run.pure (dd := some 9) rfl rfl (op_move rfl (Opd.tmp _ _ rfl)) ?_
  refine Run.pure (dd := some 10) rfl rfl (op_call_pure (fun _ => nan_c _) rfl (Opd.func _) (Opds.cons _ _ _ _ (Opd.tmp _ _ rfl) Opds.nil)) ?_
  refine Run.pure (dd := some 6) rfl rfl (op_assign rfl (Opd.tmp _ _ rfl)) ?_
  refine Run.nil (FinR.mk ?_)
  refine nK ?_
  refine s_reg rfl ?_
  refine Run.pure (dd := some 11) rfl rfl (op_move rfl (Opd.tmp _ _ rfl)) ?_
  refine Run.nil (FinR.mk ?_)
  refine nK ?_
  refine n_cond _ rfl (fun hb => ?_) (fun hb => ?_)
  · cases hb
  · refine nK ?_
    refine s_reg rfl ?_
    refine Run.pure (dd := some 13) rfl rfl (op_move rfl (Opd.tmp _ _ rfl)) ?_
    refine Run.nil (FinR.mk ?_)
    refine nK ?_
    refine n_cond _ rfl (fun hb => ?_) (fun hb => ?_)
    · cases hb
    · unfold cmpI
      refine nK ?_
      refine s_reg rfl ?_
      refine Run.pure (dd := some 14) rfl rfl (op_move rfl (Opd.tmp _ _ rfl)) ?_
      refine Run.pure (dd := some 15) rfl rfl (op_move rfl (Opd.tmp _ _ rfl)) ?_
      refine Run.pure (dd := some 16) rfl rfl (op_lss rfl (Opd.tmp _ _ rfl) (Opd.tmp _ _ rfl)) ?_
      refine Run.nil (FinR.mk ?_)
      refine nK ?_
      refine n_cond _ rfl (fun hb => ?_) (fun hb => ?_)
      · rw [if_pos (by simpa using hb)]
        refine nK ?_
        refine s_reg rfl ?_
        refine Run.pure (dd := some 4) rfl rfl (op_assign rfl (Opd.const _)) ?_
        refine Run.nil (FinR.mk ?_)
        refine nK ?_
        (first | exact s_o1 hC rfl tV | exact s_o2 hC rfl tV tV | exact s_o3 hC rfl tV tV tV | exact s_o4 hC rfl tV tV tV tV | exact s_out0 hC rfl | exact s_outO hC rfl rfl rfl)
      · rw [if_neg (by simpa using hb)]
        refine nK ?_
        refine s_reg rfl ?_
        refine Run.pure (dd := some 17) rfl rfl (op_move rfl (Opd.tmp _ _ rfl)) ?_
        refine Run.pure (dd := some 18) rfl rfl (op_move rfl (Opd.tmp _ _ rfl)) ?_
        refine Run.pure (dd := some 19) rfl rfl (op_gtr rfl (Opd.tmp _ _ rfl) (Opd.tmp _ _ rfl)) ?_
        refine Run.nil (FinR.mk ?_)
        refine nK ?_
        refine n_cond _ rfl (fun hb => ?_) (fun hb => ?_)
        · rw [if_pos (by simpa using hb)]
          refine nK ?_
          refine s_reg rfl ?_
          refine Run.pure (dd := some 4) rfl rfl (op_assign rfl (Opd.const _)) ?_
          refine Run.nil (FinR.mk ?_)
          refine nK ?_
          (first | exact s_o1 hC rfl tV | exact s_o2 hC rfl tV tV | exact s_o3 hC rfl tV tV tV | exact s_o4 hC rfl tV tV tV tV | exact s_out0 hC rfl | exact s_outO hC rfl rfl rfl)
        · rw [if_neg (by simpa using hb)]
          refine nK ?_
          refine s_reg rfl ?_
          refine Run.pure (dd := some 4) rfl rfl (op_assign rfl (Opd.const _)) ?_
          refine Run.nil (FinR.mk ?_)
          refine nK ?_
          (first | exact s_o1 hC rfl tV | exact s_o2 hC rfl tV tV | exact s_o3 hC rfl tV tV tV | exact s_o4 hC rfl tV tV tV tV | exact s_out0 hC rfl | exact s_outO hC rfl rfl rfl)
def orI : List Int → Int
  | [] => 0
  | x :: l => if x ≠ 0 then x else orI l
theorem or_c (l : List Int) (hn : l.length ≤ 1000000) : Pure Try.prog 53 [VI l] (If .i64 (orI l)) := by
  refine Meets.intro Try.func53 rfl (Nat.le_of_ble_eq_true rfl) fun C hC => ?_
  simp only [List.map, argEnv, Nat.reduceAdd]
  refine nK ?_
  refine s_reg rfl ?_
  refine Run.pure (dd := some 2) rfl rfl (op_assign rfl (Opd.const _)) ?_
  refine Run.nil (FinR.mk ?_)
  refine nK ?_
  refine s_reg rfl ?_
  refine Run.pure (dd := some 3) rfl rfl (op_assign rfl (Opd.const _)) ?_
  refine Run.nil (FinR.mk ?_)
  refine nK ?_
  refine s_reg rfl ?_
  refine Run.pure (dd := some 6) rfl rfl (op_move rfl (Opd.tmp _ _ rfl)) ?_
  refine Run.pure (dd := some 7) rfl rfl (op_len_fz rfl (by first | exact Opd.tmp _ _ rfl | exact Opd.nil _ _ (Opd.tmp _ _ rfl)) (by first | exact List.length_map _ | rfl)) ?_
  refine Run.pure (dd := some 8) rfl rfl (op_move rfl (Opd.const _)) ?_
  refine Run.nil (FinR.mk ?_)
  refine nK ?_
  refine n_loop (ι := Nat) (fun i => ([(3, IV .i64 0), (6, .fz (VI l)), (7, IV .i64 l.length), (8, IV .i64 i)], [], 0)) (fun i => i ≤ l.length ∧ orI (l.drop i) = orI l) (fun i => l.length - i) 0 ⟨Nat.zero_le _, rfl⟩ ?_ ?_
  · refine Next.weak [] [] (by rfl) (keeps0 hC _) (by repeat (first | exact trivial | refine ⟨⟨_, rfl, .inl ⟨rfl, rfl⟩⟩, ?_⟩)) (by repeat (first | exact trivial | refine ⟨ent_same rfl rfl rfl tL, ?_⟩ | refine ⟨ent_same rfl rfl (rfEq rfl tU) tL, ?_⟩ | refine ⟨ent_same rfl rfl (flEq rfl (by first | (simp; done) | (simp; omega) | (simp [encP]; done) | simp [maxC, minC])) trivial, ?_⟩)) (fun _ h => by simp at h) rel_intro
  · intro i ⟨hi, ho⟩ K hK
    refine nK ?_
    refine s_reg rfl ?_
    refine Run.pure (dd := some 9) rfl rfl (op_lss rfl (Opd.tmp _ _ rfl) (Opd.tmp _ _ rfl)) ?_
    refine Run.nil (FinR.mk ?_)
    refine nK ?_
    refine n_cond _ rfl (fun hb => ?_) (fun hb => ?_)
    · have hlt : i < l.length := by simp at hb; omega
      have hr1 := row_at' encN l i hlt
      rw [List.drop_eq_getElem_cons hlt] at ho
      simp only [orI] at ho
      have hK1 := fun h => hK (i + 1) ⟨by omega, h⟩ (by omega)
      generalize l[i] = x at *
      refine nK ?_
      refine s_reg rfl ?_
      refine Run.pure (dd := some 10) rfl rfl (op_idx_fz _ rfl (Opd.tmp _ _ rfl) (Opd.tmp _ _ rfl) tF) ?_
      refine Run.pure (dd := some 11) rfl rfl (op_load1_fz rfl (Opd.tmp _ _ rfl) rfl) ?_
      refine Run.pure (dd := some 5) rfl rfl (op_assign rfl (Opd.tmp _ _ rfl)) ?_
      refine Run.nil (FinR.mk ?_)
      refine nK ?_
      refine s_reg rfl ?_
      refine Run.pure (dd := some 12) rfl rfl (op_move rfl (Opd.tmp _ _ rfl)) ?_
      refine Run.pure (dd := some 13) rfl rfl (op_move rfl (Opd.tmp _ _ rfl)) ?_
      refine Run.pure (dd := some 14) rfl rfl (op_neq rfl (Opd.tmp _ _ rfl) (Opd.tmp _ _ rfl)) ?_
      refine Run.nil (FinR.mk ?_)
      refine nK ?_
      refine n_cond _ rfl (fun hb => ?_) (fun hb => ?_)
      · rw [if_pos (by simpa using hb)] at ho
        rw [← ho]
        refine nK ?_
        refine s_reg rfl ?_
        refine Run.pure (dd := some 15) rfl rfl (op_move rfl (Opd.tmp _ _ rfl)) ?_
        refine Run.pure (dd := some 2) rfl rfl (op_assign rfl (Opd.tmp _ _ rfl)) ?_
        refine Run.nil (FinR.mk ?_)
        refine nK ?_
        (first | exact s_o1 hC rfl tV | exact s_o2 hC rfl tV tV | exact s_o3 hC rfl tV tV tV | exact s_o4 hC rfl tV tV tV tV | exact s_out0 hC rfl | exact s_outO hC rfl rfl rfl)
      · rw [if_neg (by simpa using hb)] at ho
        refine nK ?_
        refine s_reg rfl ?_
        refine Run.pure (dd := some 16) rfl rfl (op_add rfl (Opd.tmp _ _ rfl) (Opd.const _) tI) ?_
        refine Run.pure (dd := some 8) rfl rfl (op_move rfl (Opd.tmp _ _ rfl)) ?_
        refine Run.nil (FinR.mk ?_)
        refine nK ?_
        refine Next.weak [] [] (by rfl) (keeps0 hC _) (by repeat (first | exact trivial | refine ⟨⟨_, rfl, .inl ⟨rfl, rfl⟩⟩, ?_⟩)) (by repeat (first | exact trivial | refine ⟨ent_same rfl rfl rfl tL, ?_⟩ | refine ⟨ent_same rfl rfl (rfEq rfl tU) tL, ?_⟩ | refine ⟨ent_same rfl rfl (flEq rfl (by first | (simp; done) | (simp; omega) | (simp [encP]; done) | simp [maxC, minC])) trivial, ?_⟩)) (fun _ h => by simp at h) (hK1 ho)
    · have hie : i = l.length := by simp at hb; omega
      rw [hie, List.drop_length] at ho
      rw [← ho]
      refine nK ?_
      refine s_reg rfl ?_
      refine Run.pure (dd := some 17) rfl rfl (op_move rfl (Opd.tmp _ _ rfl)) ?_
      refine Run.pure (dd := some 2) rfl rfl (op_assign rfl (Opd.tmp _ _ rfl)) ?_
      refine Run.nil (FinR.mk ?_)
      refine nK ?_
      (first | exact s_o1 hC rfl tV | exact s_o2 hC rfl tV tV | exact s_o3 hC rfl tV tV tV | exact s_o4 hC rfl tV tV tV tV | exact s_out0 hC rfl | exact s_outO hC rfl rfl rfl)
end Go.Proofs.Ytfkcbglnadjnnaa
/- Plain facts on runs of addresses. No program in sight. -/
namespace Go.Pl
open Go.RT
structure Spn where
  lo : Nat
  hi : Nat
  deriving DecidableEq
/-- ascending, disjoint, apart -/
def Canon (l : List Spn) : Prop := (∀ s ∈ l, s.lo < s.hi) ∧ l.Pairwise (fun a b => a.hi < b.lo)
theorem Canon.nil : Canon [] := ⟨by simp, by simp⟩

theorem Canon.push {l : List Spn} {s : Spn} (h : Canon l) (hs : s.lo < s.hi) (hl : ∀ o ∈ l, o.hi < s.lo) : Canon (l ++ [s]) := by
  refine ⟨fun o ho => ?_, ?_⟩
  · rcases List.mem_append.1 ho with h1 | h1
    · exact h.1 o h1
    · simp at h1; subst h1; exact hs
  · rw [List.pairwise_append]
    exact ⟨h.2, by simp, fun a ha b hb => by simp at hb; subst hb; exact hl a ha⟩
end Go.Pl
/- Lists of runs and lists of prefixes. No program in sight. -/
namespace Go.Pl
open Go.RT
/-! ## intersection and complement -/
def meetS (a b : List Spn) : List Spn := a.flatMap fun s => b.filterMap fun t => if max s.lo t.lo < min s.hi t.hi then some ⟨max s.lo t.lo, min s.hi t.hi⟩ else none
end Go.Pl
/- The blocks of a run. No program in sight. -/
namespace Go.Pl
open Go.RT
def blk (a k : Nat) : Pfx := ⟨a, 32 - (k : Int)⟩
/-- where the block twice as large begins -/
def pa (p : Pfx) : Nat := p.addr / (2 * sz p) * (2 * sz p)
open Go.RT
open Go.RT
end Go.Pl
namespace Go.Pl
@[simp] theorem meet_nil (a : List Spn) : meetS a [] = [] := by
  unfold meetS; induction a with
  | nil => rfl
  | cons s a ih => simp
@[simp] theorem meet_nil' (b : List Spn) : meetS [] b = [] := rfl
open Go.RT
open Go.RT
end Go.Pl
namespace Go.Proofs.Ytfkcbglnadjnnaa
open Go Go.RT Go.Proofs Go.Pl
set_option linter.all false
set_option maxRecDepth 20000
theorem clamp_any (n most : Int) : Pure Try.prog 104 [If .i64 n, If .i64 most] (If .i64 (min (max n 0) most)) := by
  refine Meets.intro Try.func104 rfl (Nat.le_of_ble_eq_true rfl) fun C hC => ?_
  simp only [List.map, argEnv, Nat.reduceAdd]
  refine nK ?_
  refine s_reg rfl ?_
  refine Run.pure (dd := some 4) rfl rfl (op_assign rfl (Opd.const _)) ?_
  refine Run.nil (FinR.mk ?_)
  refine nK ?_
  refine s_reg rfl ?_
  refine Run.pure (dd := some 5) rfl rfl (op_move rfl (Opd.tmp _ _ rfl)) ?_
  refine Run.pure (dd := some 6) rfl rfl (op_max rfl (Opd.tmp _ _ rfl) (Opd.const _)) ?_
  refine Run.pure (dd := some 7) rfl rfl (op_move rfl (Opd.tmp _ _ rfl)) ?_
  refine Run.pure (dd := some 8) rfl rfl (op_min rfl (Opd.tmp _ _ rfl) (Opd.tmp _ _ rfl)) ?_
  refine Run.pure (dd := some 4) rfl rfl (op_assign rfl (Opd.tmp _ _ rfl)) ?_
  refine Run.nil (FinR.mk ?_)
  refine nK ?_
  (first | exact s_o1 hC rfl tV | exact s_o2 hC rfl tV tV | exact s_o3 hC rfl tV tV tV | exact s_o4 hC rfl tV tV tV tV | exact s_out0 hC rfl | exact s_outO hC rfl rfl rfl)

theorem mask_val (n : Int) : IV .u32 (IntKind.u32.wrap (4294967295 * 2 ^ (32 - clampN n))) = IV .u32 ((2 ^ 32 - 2 ^ (32 - clampN n) : Nat) : Int) := by
  have h1 : 2 ^ (32 - clampN n) ≤ 2 ^ 32 := Nat.pow_le_pow_right (by omega) (by omega)
  have := mask_wrap (32 - clampN n) (by omega)
  have e : (4294967295 * 2 ^ (32 - clampN n) : Int) = ((4294967295 * 2 ^ (32 - clampN n) : Nat) : Int) := by simp
  have h3 : IntKind.u32.wrap (4294967295 * 2 ^ (32 - clampN n)) = ((2 ^ 32 - 2 ^ (32 - clampN n) : Nat) : Int) := by
    rw [e]; simp only [IntKind.wrap, IntKind.bits, IntKind.signed]
    have : (4294967295 * 2 ^ (32 - clampN n)) % 2 ^ 32 = 2 ^ 32 - 2 ^ (32 - clampN n) := this
    simp; omega
  rw [h3]
theorem mask_any (n : Int) : Pure Try.prog 96 [If .i64 n] (If .u32 ((2 ^ 32 - 2 ^ (32 - clampN n) : Nat) : Int)) := by
  have hc := clampN_int n
  have hl := clampN_le n
  refine Meets.intro Try.func96 rfl (Nat.le_of_ble_eq_true rfl) fun C hC => ?_
  simp only [List.map, argEnv, Nat.reduceAdd]
  refine nK ?_
  refine s_reg rfl ?_
  refine Run.pure (dd := some 2) rfl rfl (op_assign rfl (Opd.const _)) ?_
  refine Run.nil (FinR.mk ?_)
  refine nK ?_
  refine s_reg rfl ?_
  refine Run.pure (dd := some 3) rfl rfl (op_move rfl (Opd.tmp _ _ rfl)) ?_
  refine Run.pure (dd := some 4) rfl rfl (op_call_pure (fun _ => clamp_any _ _) rfl (Opd.func _) (Opds.cons _ _ _ _ (Opd.tmp _ _ rfl) (Opds.cons _ _ _ _ (Opd.const _) Opds.nil))) ?_
  refine Run.pure (dd := some 5) rfl rfl (op_sub rfl (Opd.const _) (Opd.tmp _ _ rfl) tI) ?_
  refine Run.pure (dd := some 6) rfl rfl (castP (fun _ => mask_val n) (op_shlw (n := 32 - clampN n) rfl (Opd.const _) (Opd.tmp _ _ rfl) (by intro _; simp only [IntKind.bits]; omega))) ?_
  refine Run.pure (dd := some 2) rfl rfl (op_assign rfl (Opd.tmp _ _ rfl)) ?_
  refine Run.nil (FinR.mk ?_)
  refine nK ?_
  (first | exact s_o1 hC rfl tV | exact s_o2 hC rfl tV tV | exact s_o3 hC rfl tV tV tV | exact s_o4 hC rfl tV tV tV tV | exact s_out0 hC rfl | exact s_outO hC rfl rfl rfl)

theorem keep_any (x : Nat) (n : Int) (hx : x < 2 ^ 32) : Pure Try.prog 74 [If .u32 x, If .i64 n] (If .u32 (keepN x (clampN n))) := by
  have hc := clampN_int n
  have hl := clampN_le n
  have hk : ((x &&& (2 ^ 32 - 2 ^ (32 - clampN n)) : Nat) : Int) = (keepN x (clampN n) : Int) := by rw [land_high x _ (by omega) hx]; rfl
  have hle := keepN_le x (clampN n)
  have h0 : 0 < 2 ^ (32 - clampN n) := Nat.two_pow_pos _
  refine Meets.intro Try.func74 rfl (Nat.le_of_ble_eq_true rfl) fun C hC => ?_
  simp only [List.map, argEnv, Nat.reduceAdd]
  refine nK ?_
  refine s_reg rfl ?_
  refine Run.pure (dd := some 4) rfl rfl (op_assign rfl (Opd.const _)) ?_
  refine Run.nil (FinR.mk ?_)
  refine nK ?_
  refine s_reg rfl ?_
  refine Run.pure (dd := some 5) rfl rfl (op_move rfl (Opd.tmp _ _ rfl)) ?_
  refine Run.pure (dd := some 6) rfl rfl (op_move rfl (Opd.tmp _ _ rfl)) ?_
  refine Run.pure (dd := some 7) rfl rfl (op_call_pure (fun _ => mask_any _) rfl (Opd.func _) (Opds.cons _ _ _ _ (Opd.tmp _ _ rfl) Opds.nil)) ?_
  refine Run.pure (dd := some 8) rfl rfl (castP (fun _ => congrArg (IV .u32) hk) (op_bits rfl (Opd.tmp _ _ rfl) (Opd.tmp _ _ rfl) (.inl ⟨rfl, rfl⟩) (by intro _; simp only [IntKind.bits]; omega) (by intro _; simp only [inr, hk]; omega))) ?_
  refine Run.pure (dd := some 4) rfl rfl (op_assign rfl (Opd.tmp _ _ rfl)) ?_
  refine Run.nil (FinR.mk ?_)
  refine nK ?_
  (first | exact s_o1 hC rfl tV | exact s_o2 hC rfl tV tV | exact s_o3 hC rfl tV tV tV | exact s_o4 hC rfl tV tV tV tV | exact s_out0 hC rfl | exact s_outO hC rfl rfl rfl)


theorem valid_any (p : Pfx) (h : p.ok) : Pure Try.prog 51 [.agg (encP p)] (Bf (validB p)) := by
  obtain ⟨h1, h2⟩ := h
  refine Meets.intro Try.func51 rfl (Nat.le_of_ble_eq_true rfl) fun C hC => ?_
  simp only [List.map, argEnv, Nat.reduceAdd]
  refine nK ?_
  refine s_reg rfl ?_
  refine Run.eff (dd := some 1) rfl rfl (op_box_flat rfl (Opd.tmp _ _ rfl) tC rfl) ?_
  refine Run.pure (dd := some 2) rfl rfl (op_assign rfl (Opd.const _)) ?_
  refine Run.nil (FinR.mk ?_)
  refine nK ?_
  refine s_draw mixed ?_
  refine Run.pure (dd := some 3) rfl rfl (op_fld_ptr (by decide) rfl (Opd.tmp _ _ rfl)) ?_
  refine Run.load (dd := some 4) rfl rfl (op_load1_flat rfl (Opd.tmp _ _ rfl) tH rfl) ?_
  refine Run.pure (dd := some 5) rfl rfl (op_geq rfl (Opd.tmp _ _ rfl) (Opd.const _)) ?_
  refine Run.pure (dd := some 6) rfl rfl (op_move rfl (Opd.tmp _ _ rfl)) ?_
  refine Run.pureG (dd := some 7) rfl rfl rfl tG (op_fld_ptr (by decide) rfl (Opd.tmp _ _ rfl)) ?_
  refine Run.loadG (dd := some 8) rfl rfl rfl tG (op_load1_flat rfl (Opd.topt _ _ _ rfl tO) tH rfl) ?_
  refine Run.pureG (dd := some 9) rfl rfl rfl tG (op_leq rfl (Opd.topt _ _ _ rfl tO) (Opd.const _)) ?_
  refine Run.pure (dd := some 10) rfl rfl (op_pick_and rfl (Opd.tmp _ _ rfl) (Opd.topt _ _ _ rfl tO)) ?_
  refine Run.pure (dd := some 11) rfl rfl (op_move rfl (Opd.tmp _ _ rfl)) ?_
  refine Run.pureG (dd := some 12) rfl rfl rfl tG (op_fld_ptr (by decide) rfl (Opd.tmp _ _ rfl)) ?_
  refine Run.loadG (dd := some 13) rfl rfl rfl tG (op_load1_flat rfl (Opd.topt _ _ _ rfl tO) tH rfl) ?_
  refine Run.pureG (dd := some 14) rfl rfl rfl tG (op_fld_ptr (by decide) rfl (Opd.tmp _ _ rfl)) ?_
  refine Run.loadG (dd := some 15) rfl rfl rfl tG (op_load1_flat rfl (Opd.topt _ _ _ rfl tO) tH rfl) ?_
  refine Run.pureG (dd := some 16) rfl rfl rfl tG (op_call_pure (fun _ => keep_any _ _ (by omega)) rfl (Opd.func _) (Opds.cons _ _ _ _ (Opd.topt _ _ _ rfl tO) (Opds.cons _ _ _ _ (Opd.topt _ _ _ rfl tO) Opds.nil))) ?_
  refine Run.pureG (dd := some 17) rfl rfl rfl tG (op_fld_ptr (by decide) rfl (Opd.tmp _ _ rfl)) ?_
  refine Run.loadG (dd := some 18) rfl rfl rfl tG (op_load1_flat rfl (Opd.topt _ _ _ rfl tO) tH rfl) ?_
  refine Run.pureG (dd := some 19) rfl rfl rfl tG (op_eql rfl (Opd.topt _ _ _ rfl tO) (Opd.topt _ _ _ rfl tO)) ?_
  refine Run.pure (dd := some 20) rfl rfl (op_pick_and rfl (Opd.tmp _ _ rfl) (Opd.topt _ _ _ rfl tO)) ?_
  refine Run.pure (dd := some 2) rfl rfl (op_assign rfl (Opd.tmp _ _ rfl)) ?_
  refine Run.nil (FinD.mk (by kernel_rfl) ?_)
  refine nK ?_
  (first | exact s_o1 hC rfl tV | exact s_o2 hC rfl tV tV | exact s_o3 hC rfl tV tV tV | exact s_o4 hC rfl tV tV tV tV | exact s_out0 hC rfl | exact s_outO hC rfl rfl rfl)
theorem low_any (n most : Int) : Pure Try.prog 83 [If .i64 n, If .i64 most] (If .i64 (min (max n 0) most)) := by
  refine Meets.intro Try.func83 rfl (Nat.le_of_ble_eq_true rfl) fun C hC => ?_
  simp only [List.map, argEnv, Nat.reduceAdd]
  refine nK ?_
  refine s_reg rfl ?_
  refine Run.pure (dd := some 4) rfl rfl (op_assign rfl (Opd.const _)) ?_
  refine Run.nil (FinR.mk ?_)
  refine nK ?_
  refine s_reg rfl ?_
  refine Run.pure (dd := some 5) rfl rfl (op_move rfl (Opd.tmp _ _ rfl)) ?_
  refine Run.pure (dd := some 6) rfl rfl (op_max rfl (Opd.tmp _ _ rfl) (Opd.const _)) ?_
  refine Run.pure (dd := some 7) rfl rfl (op_move rfl (Opd.tmp _ _ rfl)) ?_
  refine Run.pure (dd := some 8) rfl rfl (op_min rfl (Opd.tmp _ _ rfl) (Opd.tmp _ _ rfl)) ?_
  refine Run.pure (dd := some 4) rfl rfl (op_assign rfl (Opd.tmp _ _ rfl)) ?_
  refine Run.nil (FinR.mk ?_)
  refine nK ?_
  (first | exact s_o1 hC rfl tV | exact s_o2 hC rfl tV tV | exact s_o3 hC rfl tV tV tV | exact s_o4 hC rfl tV tV tV tV | exact s_out0 hC rfl | exact s_outO hC rfl rfl rfl)
theorem low32_any (n : Int) : Pure Try.prog 83 [If .i64 n, If .i64 32] (If .i64 (clampN n)) := by
  rw [← clampN_int]; exact low_any n 32

theorem at_any (x i : Nat) (hx : x < 2 ^ 32) (hi : i < 32) : Pure Try.prog 84 [If .u32 x, If .i64 i] (If .i64 ((x / 2 ^ (31 - i) % 2 : Nat) : Int)) := by
  have hd : x / 2 ^ (31 - i) ≤ x := Nat.div_le_self _ _
  have hm : x / 2 ^ (31 - i) % 2 < 2 := Nat.mod_lt _ (by omega)
  refine Meets.intro Try.func84 rfl (Nat.le_of_ble_eq_true rfl) fun C hC => ?_
  simp only [List.map, argEnv, Nat.reduceAdd]
  refine nK ?_
  refine s_reg rfl ?_
  refine Run.pure (dd := some 4) rfl rfl (op_assign rfl (Opd.const _)) ?_
  refine Run.nil (FinR.mk ?_)
  refine nK ?_
  refine s_reg rfl ?_
  refine Run.pure (dd := some 5) rfl rfl (op_move rfl (Opd.tmp _ _ rfl)) ?_
  refine Run.pure (dd := some 6) rfl rfl (op_lss rfl (Opd.tmp _ _ rfl) (Opd.const _)) ?_
  refine Run.pure (dd := some 7) rfl rfl (op_move rfl (Opd.tmp _ _ rfl)) ?_
  refine Run.pureG (dd := some 8) rfl rfl rfl tG (op_move rfl (Opd.tmp _ _ rfl)) ?_
  refine Run.pureG (dd := some 9) rfl rfl rfl tG (op_gtr rfl (Opd.topt _ _ _ rfl tO) (Opd.const _)) ?_
  refine Run.pure (dd := some 10) rfl rfl (op_pick_or rfl (Opd.tmp _ _ rfl) (Opd.topt _ _ _ rfl tO)) ?_
  refine Run.nil (FinR.mk ?_)
  refine nK ?_
  refine n_cond _ rfl (fun hb => ?_) (fun hb => ?_)
  · exfalso; simp at hb; omega
  refine nK ?_
  refine s_reg rfl ?_
  refine Run.pure (dd := some 11) rfl rfl (op_move rfl (Opd.tmp _ _ rfl)) ?_
  refine Run.pure (dd := some 12) rfl rfl (op_move rfl (Opd.tmp _ _ rfl)) ?_
  refine Run.pure (dd := some 13) rfl rfl (op_sub rfl (Opd.const _) (Opd.tmp _ _ rfl) tI) ?_
  refine Run.pure (dd := some 14) rfl rfl (op_conv rfl (Opd.tmp _ _ rfl) tI) ?_
  refine Run.pure (dd := some 15) rfl rfl (op_shrN (31 - i) rfl (Opd.tmp _ _ rfl) (Opd.tmp _ _ rfl) (by intro _; simp only [IntKind.bits]; omega)) ?_
  refine Run.pure (dd := some 16) rfl rfl (op_and1 rfl (Opd.tmp _ _ rfl) (Opd.const _) (by intro _; simp only [IntKind.bits]; omega) (by simp [IntKind.bits])) ?_
  refine Run.pure (dd := some 17) rfl rfl (op_conv rfl (Opd.tmp _ _ rfl) tI) ?_
  refine Run.pure (dd := some 4) rfl rfl (op_assign rfl (Opd.tmp _ _ rfl)) ?_
  refine Run.nil (FinR.mk ?_)
  refine nK ?_
  (first | exact s_o1 hC rfl tV | exact s_o2 hC rfl tV tV | exact s_o3 hC rfl tV tV tV | exact s_o4 hC rfl tV tV tV tV | exact s_out0 hC rfl | exact s_outO hC rfl rfl rfl)

theorem rkeep_any (x : Nat) (n : Int) (hx : x < 2 ^ 32) : Pure Try.prog 56 [If .u32 x, If .i64 n] (If .u32 (keepN x (clampN n))) := by
  have hl := clampN_le n
  refine Meets.intro Try.func56 rfl (Nat.le_of_ble_eq_true rfl) fun C hC => ?_
  simp only [List.map, argEnv, Nat.reduceAdd]
  refine nK ?_
  refine s_reg rfl ?_
  refine Run.pure (dd := some 4) rfl rfl (op_assign rfl (Opd.const _)) ?_
  refine Run.nil (FinR.mk ?_)
  refine nK ?_
  refine s_reg rfl ?_
  refine Run.pure (dd := some 5) rfl rfl (op_assign rfl (Opd.const _)) ?_
  refine Run.nil (FinR.mk ?_)
  refine nK ?_
  refine s_reg rfl ?_
  refine Run.pure (dd := some 7) rfl rfl (op_move rfl (Opd.tmp _ _ rfl)) ?_
  refine Run.pure (dd := some 8) rfl rfl (op_call_pure (fun _ => low32_any _) rfl (Opd.func _) (Opds.cons _ _ _ _ (Opd.tmp _ _ rfl) (Opds.cons _ _ _ _ (Opd.const _) Opds.nil))) ?_
  refine Run.pure (dd := some 9) rfl rfl (op_move rfl (Opd.const _)) ?_
  refine Run.nil (FinR.mk ?_)
  refine nK ?_
  refine n_loop (ι := Nat) (fun i => ([(0, IV .u32 x), (5, IV .u32 (keepN x i)), (8, IV .i64 (clampN n)), (9, IV .i64 i)], [], 0)) (fun i => i ≤ clampN n) (fun i => clampN n - i) 0 (Nat.zero_le _) ?_ ?_
  · have h0 := keep_zero x hx
    rw [h0]
    refine Next.weak [] [] (by rfl) (keeps0 hC _) (by repeat (first | exact trivial | refine ⟨⟨_, rfl, .inl ⟨rfl, rfl⟩⟩, ?_⟩)) (by repeat (first | exact trivial | refine ⟨ent_same rfl rfl rfl tL, ?_⟩ | refine ⟨ent_same rfl rfl (rfEq rfl tU) tL, ?_⟩ | refine ⟨ent_same rfl rfl (flEq rfl (by first | (simp; done) | (simp; omega) | (simp [encP]; done) | simp [maxC, minC])) trivial, ?_⟩)) (fun _ h => by simp at h) rel_intro
  · intro i hi K hK
    refine nK ?_
    refine s_reg rfl ?_
    refine Run.pure (dd := some 10) rfl rfl (op_lss rfl (Opd.tmp _ _ rfl) (Opd.tmp _ _ rfl)) ?_
    refine Run.nil (FinR.mk ?_)
    refine nK ?_
    refine n_cond _ rfl (fun hb => ?_) (fun hb => ?_)
    · have hlt : i < clampN n := by simp at hb; omega
      have hk := keep_succ x i (by omega)
      have hle := keepN_le x i
      have hle2 := keepN_le x (i + 1)
      have hm : x / 2 ^ (31 - i) % 2 < 2 := Nat.mod_lt _ (by omega)
      have hp : 2 ^ (31 - i) ≤ 2 ^ 31 := Nat.pow_le_pow_right (by omega) (by omega)
      have hmul : x / 2 ^ (31 - i) % 2 * 2 ^ (31 - i) ≤ 1 * 2 ^ 31 := Nat.mul_le_mul (by omega) hp
      refine nK ?_
      refine s_reg rfl ?_
      refine Run.pure (dd := some 11) rfl rfl (op_move rfl (Opd.tmp _ _ rfl)) ?_
      refine Run.pure (dd := some 6) rfl rfl (op_assign rfl (Opd.tmp _ _ rfl)) ?_
      refine Run.nil (FinR.mk ?_)
      refine nK ?_
      refine s_reg rfl ?_
      refine Run.pure (dd := some 12) rfl rfl (op_move rfl (Opd.tmp _ _ rfl)) ?_
      refine Run.pure (dd := some 13) rfl rfl (op_move rfl (Opd.tmp _ _ rfl)) ?_
      refine Run.pure (dd := some 14) rfl rfl (op_move rfl (Opd.tmp _ _ rfl)) ?_
      refine Run.pure (dd := some 15) rfl rfl (op_call_pure (fun _ => at_any _ _ (by omega) (by omega)) rfl (Opd.func _) (Opds.cons _ _ _ _ (Opd.tmp _ _ rfl) (Opds.cons _ _ _ _ (Opd.tmp _ _ rfl) Opds.nil))) ?_
      refine Run.pure (dd := some 16) rfl rfl (op_conv rfl (Opd.tmp _ _ rfl) tI) ?_
      refine Run.pure (dd := some 17) rfl rfl (op_move rfl (Opd.tmp _ _ rfl)) ?_
      refine Run.pure (dd := some 18) rfl rfl (op_sub rfl (Opd.const _) (Opd.tmp _ _ rfl) tI) ?_
      refine Run.pure (dd := some 19) rfl rfl (op_conv rfl (Opd.tmp _ _ rfl) tI) ?_
      refine Run.pure (dd := some 20) rfl rfl (op_shlN (31 - i) rfl (Opd.tmp _ _ rfl) (Opd.tmp _ _ rfl) (by intro _; simp only [IntKind.bits, inr]; omega)) ?_
      refine Run.pure (dd := some 21) rfl rfl (castP (fun _ => congrArg (fun z : Nat => IV .u32 z) hk) (op_bits rfl (Opd.tmp _ _ rfl) (Opd.tmp _ _ rfl) (.inr (.inl ⟨rfl, rfl⟩)) (by intro _; simp only [IntKind.bits]; omega) (by intro _; simp only [inr, hk]; omega))) ?_
      refine Run.pure (dd := some 5) rfl rfl (op_assign rfl (Opd.tmp _ _ rfl)) ?_
      refine Run.nil (FinR.mk ?_)
      refine nK ?_
      refine s_reg rfl ?_
      refine Run.pure (dd := some 22) rfl rfl (op_add rfl (Opd.tmp _ _ rfl) (Opd.const _) tI) ?_
      refine Run.pure (dd := some 9) rfl rfl (op_move rfl (Opd.tmp _ _ rfl)) ?_
      refine Run.nil (FinR.mk ?_)
      refine nK ?_
      refine Next.weak [] [] (by rfl) (keeps0 hC _) (by repeat (first | exact trivial | refine ⟨⟨_, rfl, .inl ⟨rfl, rfl⟩⟩, ?_⟩)) (by repeat (first | exact trivial | refine ⟨ent_same rfl rfl rfl tL, ?_⟩ | refine ⟨ent_same rfl rfl (rfEq rfl tU) tL, ?_⟩ | refine ⟨ent_same rfl rfl (flEq rfl (by first | (simp; done) | (simp; omega) | (simp [encP]; done) | simp [maxC, minC])) trivial, ?_⟩)) (fun _ h => by simp at h) (hK (i + 1) (by omega) (by omega))
    · have he : i = clampN n := by simp at hb; omega
      subst he
      refine nK ?_
      refine s_reg rfl ?_
      refine Run.pure (dd := some 23) rfl rfl (op_move rfl (Opd.tmp _ _ rfl)) ?_
      refine Run.pure (dd := some 4) rfl rfl (op_assign rfl (Opd.tmp _ _ rfl)) ?_
      refine Run.nil (FinR.mk ?_)
      refine nK ?_
      (first | exact s_o1 hC rfl tV | exact s_o2 hC rfl tV tV | exact s_o3 hC rfl tV tV tV | exact s_o4 hC rfl tV tV tV tV | exact s_out0 hC rfl | exact s_outO hC rfl rfl rfl)
theorem rvalid_any (p : Pfx) (h : p.ok) : Pure Try.prog 35 [.agg (encP p)] (Bf (validB p)) := by
  obtain ⟨h1, h2⟩ := h
  refine Meets.intro Try.func35 rfl (Nat.le_of_ble_eq_true rfl) fun C hC => ?_
  simp only [List.map, argEnv, Nat.reduceAdd]
  refine nK ?_
  refine s_reg rfl ?_
  refine Run.eff (dd := some 1) rfl rfl (op_box_flat rfl (Opd.tmp _ _ rfl) tC rfl) ?_
  refine Run.pure (dd := some 2) rfl rfl (op_assign rfl (Opd.const _)) ?_
  refine Run.nil (FinR.mk ?_)
  refine nK ?_
  refine s_draw mixed ?_
  refine Run.pure (dd := some 3) rfl rfl (op_fld_ptr (by decide) rfl (Opd.tmp _ _ rfl)) ?_
  refine Run.load (dd := some 4) rfl rfl (op_load1_flat rfl (Opd.tmp _ _ rfl) tH rfl) ?_
  refine Run.pure (dd := some 5) rfl rfl (op_geq rfl (Opd.tmp _ _ rfl) (Opd.const _)) ?_
  refine Run.pure (dd := some 6) rfl rfl (op_move rfl (Opd.tmp _ _ rfl)) ?_
  refine Run.pureG (dd := some 7) rfl rfl rfl tG (op_fld_ptr (by decide) rfl (Opd.tmp _ _ rfl)) ?_
  refine Run.loadG (dd := some 8) rfl rfl rfl tG (op_load1_flat rfl (Opd.topt _ _ _ rfl tO) tH rfl) ?_
  refine Run.pureG (dd := some 9) rfl rfl rfl tG (op_leq rfl (Opd.topt _ _ _ rfl tO) (Opd.const _)) ?_
  refine Run.pure (dd := some 10) rfl rfl (op_pick_and rfl (Opd.tmp _ _ rfl) (Opd.topt _ _ _ rfl tO)) ?_
  refine Run.pure (dd := some 11) rfl rfl (op_move rfl (Opd.tmp _ _ rfl)) ?_
  refine Run.pureG (dd := some 12) rfl rfl rfl tG (op_fld_ptr (by decide) rfl (Opd.tmp _ _ rfl)) ?_
  refine Run.loadG (dd := some 13) rfl rfl rfl tG (op_load1_flat rfl (Opd.topt _ _ _ rfl tO) tH rfl) ?_
  refine Run.pureG (dd := some 14) rfl rfl rfl tG (op_fld_ptr (by decide) rfl (Opd.tmp _ _ rfl)) ?_
  refine Run.loadG (dd := some 15) rfl rfl rfl tG (op_load1_flat rfl (Opd.topt _ _ _ rfl tO) tH rfl) ?_
  refine Run.pureG (dd := some 16) rfl rfl rfl tG (op_call_pure (fun _ => rkeep_any _ _ (by omega)) rfl (Opd.func _) (Opds.cons _ _ _ _ (Opd.topt _ _ _ rfl tO) (Opds.cons _ _ _ _ (Opd.topt _ _ _ rfl tO) Opds.nil))) ?_
  refine Run.pureG (dd := some 17) rfl rfl rfl tG (op_fld_ptr (by decide) rfl (Opd.tmp _ _ rfl)) ?_
  refine Run.loadG (dd := some 18) rfl rfl rfl tG (op_load1_flat rfl (Opd.topt _ _ _ rfl tO) tH rfl) ?_
  refine Run.pureG (dd := some 19) rfl rfl rfl tG (op_eql rfl (Opd.topt _ _ _ rfl tO) (Opd.topt _ _ _ rfl tO)) ?_
  refine Run.pure (dd := some 20) rfl rfl (op_pick_and rfl (Opd.tmp _ _ rfl) (Opd.topt _ _ _ rfl tO)) ?_
  refine Run.pure (dd := some 2) rfl rfl (op_assign rfl (Opd.tmp _ _ rfl)) ?_
  refine Run.nil (FinD.mk (by kernel_rfl) ?_)
  refine nK ?_
  (first | exact s_o1 hC rfl tV | exact s_o2 hC rfl tV tV | exact s_o3 hC rfl tV tV tV | exact s_o4 hC rfl tV tV tV tV | exact s_out0 hC rfl | exact s_outO hC rfl rfl rfl)
end Go.Proofs.Ytfkcbglnadjnnaa
/- Path-vector routes. No program in sight. -/
namespace Go.Pl
open Go Go.RT
set_option linter.all false
structure Seg where
  k : Int
  as' : List Int
  deriving DecidableEq
structure Tlv where
  k : Int
  v : List Int
  deriving DecidableEq
structure Att where
  or' : Int
  pa : List Seg
  nh : Int
  hm : Bool
  md : Int
  hp : Bool
  pf : Int
  am : Bool
  ha : Bool
  aa : Int
  ad : Int
  co : List Int
  ho : Bool
  og : Int
  cl : List Int
  un : List Tlv
  deriving DecidableEq
structure Pvr where
  px : Pfx
  t : Att
  pe : Int
  kd : Int
  ro : Int
  st : Bool
  deriving DecidableEq
abbrev encW (n : Int) : List FV := [If .u32 n]
abbrev VW (l : List Int) : FV := .vals 1 (l.map encW)
abbrev VY (l : List Int) : FV := .vals 1 (l.map encY)
def encSg (s : Seg) : List FV := [If .i64 s.k, VI s.as']
def encTl (t : Tlv) : List FV := [If .i64 t.k, VY t.v]
abbrev VSg (l : List Seg) : FV := .vals 2 (l.map encSg)
abbrev VTl (l : List Tlv) : FV := .vals 2 (l.map encTl)
def encAt (a : Att) : List FV := [If .i64 a.or', VSg a.pa, If .u32 a.nh, Bf a.hm, If .i64 a.md, Bf a.hp, If .i64 a.pf, Bf a.am, Bf a.ha, If .i64 a.aa, If .u32 a.ad, VW a.co, Bf a.ho, If .u32 a.og, VW a.cl, VTl a.un]
def encPv (r : Pvr) : List FV := [If .u32 r.px.addr, If .i64 r.px.len, If .i64 r.t.or', VSg r.t.pa, If .u32 r.t.nh, Bf r.t.hm, If .i64 r.t.md, Bf r.t.hp, If .i64 r.t.pf, Bf r.t.am, Bf r.t.ha, If .i64 r.t.aa, If .u32 r.t.ad, VW r.t.co, Bf r.t.ho, If .u32 r.t.og, VW r.t.cl, VTl r.t.un, If .i64 r.pe, If .i64 r.kd, If .u32 r.ro, Bf r.st]
abbrev VPv (l : List Pvr) : FV := .vals 22 (l.map encPv)
abbrev OPv (l : List Pvr) : Option Ob := some (.flat 22 (l.map encPv))
abbrev OPv1 (r : Pvr) : Option Ob := some (.flat 22 [encPv r])
/-- in range, and not larger than what the statements speak of -/
structure okSg (s : Seg) : Prop where
  k : inr .i64 s.k
  n : ∀ x ∈ s.as', inr .i64 x
  len : s.as'.length ≤ 2000000
structure okTl (t : Tlv) : Prop where
  k : inr .i64 t.k
  n : ∀ x ∈ t.v, 0 ≤ x ∧ x < 256
  len : t.v.length ≤ 2000000
structure okAt (a : Att) : Prop where
  or' : inr .i64 a.or'
  pa : ∀ s ∈ a.pa, okSg s
  nh : inr .u32 a.nh
  md : inr .i64 a.md
  pf : inr .i64 a.pf
  aa : inr .i64 a.aa
  ad : inr .u32 a.ad
  co : ∀ x ∈ a.co, inr .u32 x
  og : inr .u32 a.og
  cl : ∀ x ∈ a.cl, inr .u32 x
  un : ∀ t ∈ a.un, okTl t
  lpa : a.pa.length ≤ 2000000
  lco : a.co.length ≤ 2000000
  lcl : a.cl.length ≤ 2000000
  lun : a.un.length ≤ 2000000
structure okPv (r : Pvr) : Prop where
  px : r.px.ok
  t : okAt r.t
  pe : inr .i64 r.pe
  kd : inr .i64 r.kd
  ro : inr .u32 r.ro
def ordV (a b : Pvr) : Int := if cmpP a.px b.px ≠ 0 then cmpP a.px b.px else cmpI a.pe b.pe
def ltV (a b : Pvr) : Prop := ltPf a.px b.px ∨ a.px = b.px ∧ a.pe < b.pe
theorem ordV_neg (a b : Pvr) : ordV a b < 0 ↔ ltV a b := by
  unfold ordV ltV
  by_cases h : cmpP a.px b.px = 0
  · rw [if_neg (by simp [h]), cmpI_neg]
    have := (cmpP_zero a.px b.px).1 h
    constructor
    · intro k; exact .inr ⟨this, k⟩
    · rintro (k | k)
      · rw [this] at k; exact k.irr.elim
      · exact k.2
  · rw [if_pos h, cmpP_neg]
    constructor
    · exact .inl
    · rintro (k | k)
      · exact k
      · exact absurd ((cmpP_zero _ _).2 k.1) h
theorem ordV_zero (a b : Pvr) : ordV a b = 0 ↔ a.px = b.px ∧ a.pe = b.pe := by
  unfold ordV
  by_cases h : cmpP a.px b.px = 0
  · rw [if_neg (by simp [h]), cmpI_zero]
    exact ⟨fun k => ⟨(cmpP_zero _ _).1 h, k⟩, fun k => k.2⟩
  · rw [if_pos h]
    exact ⟨fun k => absurd k h, fun k => (cmpP_zero _ _).2 k.1⟩
theorem eqFs_at (a b : Pvr) : (decide (a = b)) = (decide (a.px = b.px) && decide (a.pe = b.pe) && decide (a.kd = b.kd) && decide (a.ro = b.ro) && decide (a.st = b.st) && decide (a.t = b.t)) := by
  cases a; cases b
  rw [Bool.eq_iff_iff]
  simp only [Pvr.mk.injEq, Bool.and_eq_true, decide_eq_true_eq]
  constructor
  · rintro ⟨h1, h2, h3, h4, h5, h6⟩; exact ⟨⟨⟨⟨⟨h1, h3⟩, h4⟩, h5⟩, h6⟩, h2⟩
  · rintro ⟨⟨⟨⟨⟨h1, h3⟩, h4⟩, h5⟩, h6⟩, h2⟩; exact ⟨h1, h2, h3, h4, h5, h6⟩
end Go.Pl
namespace Go.Proofs.Ytfkcbglnadjnnaa
open Go Go.RT Go.Proofs Go.Pl
set_option linter.all false
set_option maxRecDepth 20000
theorem pcmp_c (p q : Pfx) : Pure Try.prog 54 [.agg (encP p), .agg (encP q)] (If .i64 (cmpP p q)) := by
  unfold cmpP
  refine Meets.intro Try.func54 rfl (Nat.le_of_ble_eq_true rfl) fun C hC => ?_
  simp only [List.map, argEnv, Nat.reduceAdd]
  refine nK ?_
  refine s_reg rfl ?_
  refine Run.eff (dd := some 2) rfl rfl (op_box_flat rfl (Opd.tmp _ _ rfl) tC rfl) ?_
  refine Run.eff (dd := some 3) rfl rfl (op_box_flat rfl (Opd.tmp _ _ rfl) tC rfl) ?_
  refine Run.pure (dd := some 4) rfl rfl (op_assign rfl (Opd.const _)) ?_
  refine Run.nil (FinR.mk ?_)
  refine nK ?_
  refine s_reg rfl ?_
  refine Run.pure (dd := some 6) rfl rfl (op_fld_ptr (by decide) rfl (Opd.tmp _ _ rfl)) ?_
  refine Run.load (dd := some 7) rfl rfl (op_load1_flat rfl (Opd.tmp _ _ rfl) tH rfl) ?_
  refine Run.pure (dd := some 8) rfl rfl (op_fld_ptr (by decide) rfl (Opd.tmp _ _ rfl)) ?_
  refine Run.load (dd := some 9) rfl rfl (op_load1_flat rfl (Opd.tmp _ _ rfl) tH rfl) ?_
  refine Run.pure (dd := some 10) rfl rfl (op_lss rfl (Opd.tmp _ _ rfl) (Opd.tmp _ _ rfl)) ?_
  refine Run.pure (dd := some 11) rfl rfl (op_move rfl (Opd.tmp _ _ rfl)) ?_
  refine Run.pureG (dd := some 12) rfl rfl rfl tG (op_fld_ptr (by decide) rfl (Opd.tmp _ _ rfl)) ?_
  refine Run.loadG (dd := some 13) rfl rfl rfl tG (op_load1_flat rfl (Opd.topt _ _ _ rfl tO) tH rfl) ?_
  refine Run.pureG (dd := some 14) rfl rfl rfl tG (op_fld_ptr (by decide) rfl (Opd.tmp _ _ rfl)) ?_
  refine Run.loadG (dd := some 15) rfl rfl rfl tG (op_load1_flat rfl (Opd.topt _ _ _ rfl tO) tH rfl) ?_
  refine Run.pureG (dd := some 16) rfl rfl rfl tG (op_eql rfl (Opd.topt _ _ _ rfl tO) (Opd.topt _ _ _ rfl tO)) ?_
  refine Run.pureG (dd := some 17) rfl rfl rfl tG (op_move rfl (Opd.topt _ _ _ rfl tO)) ?_
  refine Run.pureG (dd := some 18) rfl rfl rfl tG (op_fld_ptr (by decide) rfl (Opd.tmp _ _ rfl)) ?_
  refine Run.loadG (dd := some 19) rfl rfl rfl tG (op_load1_flat rfl (Opd.topt _ _ _ rfl tO) tH rfl) ?_
  refine Run.pureG (dd := some 20) rfl rfl rfl tG (op_fld_ptr (by decide) rfl (Opd.tmp _ _ rfl)) ?_
  refine Run.loadG (dd := some 21) rfl rfl rfl tG (op_load1_flat rfl (Opd.topt _ _ _ rfl tO) tH rfl) ?_
  refine Run.pureG (dd := some 22) rfl rfl rfl tG (op_lss rfl (Opd.topt _ _ _ rfl tO) (Opd.topt _ _ _ rfl tO)) ?_
  refine Run.pureG (dd := some 23) rfl rfl rfl tG (op_pick_and rfl (Opd.topt _ _ _ rfl tO) (Opd.topt _ _ _ rfl tO)) ?_
  refine Run.pure (dd := some 24) rfl rfl (op_pick_or rfl (Opd.tmp _ _ rfl) (Opd.topt _ _ _ rfl tO)) ?_
  refine Run.pure (dd := some 5) rfl rfl (op_assign rfl (Opd.tmp _ _ rfl)) ?_
  refine Run.nil (FinR.mk ?_)
  refine nK ?_
  refine n_cond _ rfl (fun hb => ?_) (fun hb => ?_)
  · rw [if_pos (by simp at hb ⊢; omega)]
    refine nK ?_
    refine s_reg rfl ?_
    refine Run.pure (dd := some 4) rfl rfl (op_assign rfl (Opd.const _)) ?_
    refine Run.nil (FinR.mk ?_)
    refine nK ?_
    (first | exact s_o1 hC rfl tV | exact s_o2 hC rfl tV tV | exact s_o3 hC rfl tV tV tV | exact s_o4 hC rfl tV tV tV tV | exact s_out0 hC rfl | exact s_outO hC rfl rfl rfl)
  · rw [if_neg (by simp at hb ⊢; omega)]
    refine nK ?_
    refine s_reg rfl ?_
    refine Run.load (dd := some 26) rfl rfl (op_loadw_flat rfl (Opd.tmp _ _ rfl) tH rfl) ?_
    refine Run.load (dd := some 27) rfl rfl (op_loadw_flat rfl (Opd.tmp _ _ rfl) tH rfl) ?_
    refine Run.pure (dd := some 28) rfl rfl (op_eqS rfl (Opd.tmp _ _ rfl) (Opd.tmp _ _ rfl) (by kernel_rfl)) ?_
    refine Run.pure (dd := some 25) rfl rfl (op_assign rfl (Opd.tmp _ _ rfl)) ?_
    refine Run.nil (FinR.mk ?_)
    refine nK ?_
    refine n_cond _ rfl (fun hb => ?_) (fun hb => ?_)
    · have e : p = q := by
        have h : eqFs (encP p) (encP q) = true := hb
        rw [eqFs_encP] at h; simpa using h
      rw [if_pos e]
      refine nK ?_
      refine s_reg rfl ?_
      refine Run.pure (dd := some 4) rfl rfl (op_assign rfl (Opd.const _)) ?_
      refine Run.nil (FinR.mk ?_)
      refine nK ?_
      (first | exact s_o1 hC rfl tV | exact s_o2 hC rfl tV tV | exact s_o3 hC rfl tV tV tV | exact s_o4 hC rfl tV tV tV tV | exact s_out0 hC rfl | exact s_outO hC rfl rfl rfl)
    · have e : ¬ p = q := by
        have h : eqFs (encP p) (encP q) = false := hb
        rw [eqFs_encP] at h; simpa using h
      rw [if_neg e]
      refine nK ?_
      refine s_reg rfl ?_
      refine Run.pure (dd := some 4) rfl rfl (op_assign rfl (Opd.const _)) ?_
      refine Run.nil (FinR.mk ?_)
      refine nK ?_
      (first | exact s_o1 hC rfl tV | exact s_o2 hC rfl tV tV | exact s_o3 hC rfl tV tV tV | exact s_o4 hC rfl tV tV tV tV | exact s_out0 hC rfl | exact s_outO hC rfl rfl rfl)
theorem rcmp_c (p q : Pfx) : Pure Try.prog 60 [.agg (encP p), .agg (encP q)] (If .i64 (cmpP p q)) := by
  refine Meets.intro Try.func60 rfl (Nat.le_of_ble_eq_true rfl) fun C hC => ?_
  simp only [List.map, argEnv, Nat.reduceAdd]
  refine nK ?_
  refine s_reg rfl ?_
  refine Run.eff (dd := some 2) rfl rfl (op_box_flat rfl (Opd.tmp _ _ rfl) tC rfl) ?_
  refine Run.eff (dd := some 3) rfl rfl (op_box_flat rfl (Opd.tmp _ _ rfl) tC rfl) ?_
  refine Run.pure (dd := some 4) rfl rfl (op_assign rfl (Opd.const _)) ?_
  refine Run.nil (FinR.mk ?_)
  refine nK ?_
  refine s_reg rfl ?_
  refine Run.pure (dd := some 5) rfl rfl (op_fld_ptr (by decide) rfl (Opd.tmp _ _ rfl)) ?_
  refine Run.load (dd := some 6) rfl rfl (op_load1_flat rfl (Opd.tmp _ _ rfl) tH rfl) ?_
  refine Run.pure (dd := some 7) rfl rfl (op_fld_ptr (by decide) rfl (Opd.tmp _ _ rfl)) ?_
  refine Run.load (dd := some 8) rfl rfl (op_load1_flat rfl (Opd.tmp _ _ rfl) tH rfl) ?_
  refine Run.pure (dd := some 9) rfl rfl (op_neq rfl (Opd.tmp _ _ rfl) (Opd.tmp _ _ rfl)) ?_
  refine Run.nil (FinR.mk ?_)
  refine nK ?_
  refine n_cond _ rfl (fun hb => ?_) (fun hb => ?_)
  · have h1 : p.addr ≠ q.addr := by simp at hb; omega
    refine nK ?_
    refine s_reg rfl ?_
    refine Run.pure (dd := some 10) rfl rfl (op_fld_ptr (by decide) rfl (Opd.tmp _ _ rfl)) ?_
    refine Run.load (dd := some 11) rfl rfl (op_load1_flat rfl (Opd.tmp _ _ rfl) tH rfl) ?_
    refine Run.pure (dd := some 12) rfl rfl (op_fld_ptr (by decide) rfl (Opd.tmp _ _ rfl)) ?_
    refine Run.load (dd := some 13) rfl rfl (op_load1_flat rfl (Opd.tmp _ _ rfl) tH rfl) ?_
    refine Run.pure (dd := some 14) rfl rfl (op_lss rfl (Opd.tmp _ _ rfl) (Opd.tmp _ _ rfl)) ?_
    refine Run.nil (FinR.mk ?_)
    refine nK ?_
    refine n_cond _ rfl (fun hb => ?_) (fun hb => ?_)
    · have e : cmpP p q = -1 := by unfold cmpP; rw [if_pos]; simp at hb ⊢; omega
      rw [e]
      refine nK ?_
      refine s_reg rfl ?_
      refine Run.pure (dd := some 4) rfl rfl (op_assign rfl (Opd.const _)) ?_
      refine Run.nil (FinR.mk ?_)
      refine nK ?_
      (first | exact s_o1 hC rfl tV | exact s_o2 hC rfl tV tV | exact s_o3 hC rfl tV tV tV | exact s_o4 hC rfl tV tV tV tV | exact s_out0 hC rfl | exact s_outO hC rfl rfl rfl)
    · have e : cmpP p q = 1 := by
        unfold cmpP
        rw [if_neg (by simp at hb ⊢; omega), if_neg (fun h => h1 (by rw [h]))]
      rw [e]
      refine nK ?_
      refine s_reg rfl ?_
      refine Run.pure (dd := some 4) rfl rfl (op_assign rfl (Opd.const _)) ?_
      refine Run.nil (FinR.mk ?_)
      refine nK ?_
      (first | exact s_o1 hC rfl tV | exact s_o2 hC rfl tV tV | exact s_o3 hC rfl tV tV tV | exact s_o4 hC rfl tV tV tV tV | exact s_out0 hC rfl | exact s_outO hC rfl rfl rfl)
  · have h1 : p.addr = q.addr := by simp at hb; omega
    refine nK ?_
    refine s_reg rfl ?_
    refine Run.pure (dd := some 15) rfl rfl (op_fld_ptr (by decide) rfl (Opd.tmp _ _ rfl)) ?_
    refine Run.load (dd := some 16) rfl rfl (op_load1_flat rfl (Opd.tmp _ _ rfl) tH rfl) ?_
    refine Run.pure (dd := some 17) rfl rfl (op_fld_ptr (by decide) rfl (Opd.tmp _ _ rfl)) ?_
    refine Run.load (dd := some 18) rfl rfl (op_load1_flat rfl (Opd.tmp _ _ rfl) tH rfl) ?_
    refine Run.pure (dd := some 19) rfl rfl (op_lss rfl (Opd.tmp _ _ rfl) (Opd.tmp _ _ rfl)) ?_
    refine Run.nil (FinR.mk ?_)
    refine nK ?_
    refine n_cond _ rfl (fun hb => ?_) (fun hb => ?_)
    · have e : cmpP p q = -1 := by unfold cmpP; rw [if_pos]; simp at hb ⊢; omega
      rw [e]
      refine nK ?_
      refine s_reg rfl ?_
      refine Run.pure (dd := some 4) rfl rfl (op_assign rfl (Opd.const _)) ?_
      refine Run.nil (FinR.mk ?_)
      refine nK ?_
      (first | exact s_o1 hC rfl tV | exact s_o2 hC rfl tV tV | exact s_o3 hC rfl tV tV tV | exact s_o4 hC rfl tV tV tV tV | exact s_out0 hC rfl | exact s_outO hC rfl rfl rfl)
    · refine nK ?_
      refine s_reg rfl ?_
      refine Run.pure (dd := some 20) rfl rfl (op_fld_ptr (by decide) rfl (Opd.tmp _ _ rfl)) ?_
      refine Run.load (dd := some 21) rfl rfl (op_load1_flat rfl (Opd.tmp _ _ rfl) tH rfl) ?_
      refine Run.pure (dd := some 22) rfl rfl (op_fld_ptr (by decide) rfl (Opd.tmp _ _ rfl)) ?_
      refine Run.load (dd := some 23) rfl rfl (op_load1_flat rfl (Opd.tmp _ _ rfl) tH rfl) ?_
      refine Run.pure (dd := some 24) rfl rfl (op_gtr rfl (Opd.tmp _ _ rfl) (Opd.tmp _ _ rfl)) ?_
      refine Run.nil (FinR.mk ?_)
      refine nK ?_
      refine n_cond _ rfl (fun hb => ?_) (fun hb => ?_)
      · rename_i hb2
        have e : cmpP p q = 1 := by
          unfold cmpP
          rw [if_neg (by simp at hb hb2 ⊢; omega), if_neg (fun h => by simp at hb hb2; rw [h] at hb; omega)]
        rw [e]
        refine nK ?_
        refine s_reg rfl ?_
        refine Run.pure (dd := some 4) rfl rfl (op_assign rfl (Opd.const _)) ?_
        refine Run.nil (FinR.mk ?_)
        refine nK ?_
        (first | exact s_o1 hC rfl tV | exact s_o2 hC rfl tV tV | exact s_o3 hC rfl tV tV tV | exact s_o4 hC rfl tV tV tV tV | exact s_out0 hC rfl | exact s_outO hC rfl rfl rfl)
      · rename_i hb2
        have e : cmpP p q = 0 := (cmpP_zero p q).2 (Pfx.ext' h1 (by simp at hb hb2; omega))
        rw [e]
        refine nK ?_
        refine s_reg rfl ?_
        refine Run.pure (dd := some 4) rfl rfl (op_assign rfl (Opd.const _)) ?_
        refine Run.nil (FinR.mk ?_)
        refine nK ?_
        (first | exact s_o1 hC rfl tV | exact s_o2 hC rfl tV tV | exact s_o3 hC rfl tV tV tV | exact s_o4 hC rfl tV tV tV tV | exact s_out0 hC rfl | exact s_outO hC rfl rfl rfl)
theorem compare_c (a b : Pvr) : Pure Try.prog 34 [.agg (encPv a), .agg (encPv b)] (If .i64 (ordV a b)) := by
  have e : ordV a b = orI [cmpP a.px b.px, cmpI a.pe b.pe] := by
    unfold ordV
    simp only [orI]
    by_cases h : cmpP a.px b.px = 0
    · by_cases h2 : cmpI a.pe b.pe = 0 <;> simp [h, h2]
    · simp [h]
  have ho := or_c [cmpP a.px b.px, cmpI a.pe b.pe] (by simp)
  rw [← e] at ho
  refine Meets.intro Try.func34 rfl (Nat.le_of_ble_eq_true rfl) fun C hC => ?_
  simp only [List.map, argEnv, Nat.reduceAdd]
  refine nK ?_
  refine s_reg rfl ?_
  refine Run.eff (dd := some 2) rfl rfl (op_box_flat rfl (Opd.tmp _ _ rfl) tC rfl) ?_
  refine Run.eff (dd := some 3) rfl rfl (op_box_flat rfl (Opd.tmp _ _ rfl) tC rfl) ?_
  refine Run.pure (dd := some 4) rfl rfl (op_assign rfl (Opd.const _)) ?_
  refine Run.nil (FinR.mk ?_)
  refine nK ?_
  refine s_draw mixed ?_
  refine Run.pure (dd := some 5) rfl rfl (op_fld_ptr (by decide) rfl (Opd.tmp _ _ rfl)) ?_
  refine Run.load (dd := some 6) rfl rfl (op_loadn_flat rfl (Opd.tmp _ _ rfl) tH tR tR) ?_
  refine Run.pure (dd := some 7) rfl rfl (op_fld_ptr (by decide) rfl (Opd.tmp _ _ rfl)) ?_
  refine Run.load (dd := some 8) rfl rfl (op_loadn_flat rfl (Opd.tmp _ _ rfl) tH tR tR) ?_
  refine Run.pure (dd := some 9) rfl rfl (op_call_pure (fun _ => pcmp_c _ _) rfl (Opd.func _) (Opds.cons _ _ _ _ (Opd.tmp _ _ rfl) (Opds.cons _ _ _ _ (Opd.tmp _ _ rfl) Opds.nil))) ?_
  refine Run.pure (dd := some 10) rfl rfl (op_fld_ptr (by decide) rfl (Opd.tmp _ _ rfl)) ?_
  refine Run.load (dd := some 11) rfl rfl (op_load1_flat rfl (Opd.tmp _ _ rfl) tH rfl) ?_
  refine Run.pure (dd := some 12) rfl rfl (op_fld_ptr (by decide) rfl (Opd.tmp _ _ rfl)) ?_
  refine Run.load (dd := some 13) rfl rfl (op_load1_flat rfl (Opd.tmp _ _ rfl) tH rfl) ?_
  refine Run.pure (dd := some 14) rfl rfl (op_call_pure (fun _ => cmp_c _ _) rfl (Opd.func _) (Opds.cons _ _ _ _ (Opd.tmp _ _ rfl) (Opds.cons _ _ _ _ (Opd.tmp _ _ rfl) Opds.nil))) ?_
  refine Run.pure (dd := some 15) rfl rfl (op_buildSlice_fz rfl (RowsF.cons _ _ _ _ _ _ (Opd.tmp _ _ rfl) tC (by rfl) (RowsF.cons _ _ _ _ _ _ (Opd.tmp _ _ rfl) tC (by rfl) (RowsF.nil _))) rfl rfl) ?_
  refine Run.pure (dd := some 16) rfl rfl (op_call_pure (fun _ => ho) rfl (Opd.func _) (Opds.cons _ _ _ _ (Opd.tmp _ _ rfl) Opds.nil)) ?_
  refine Run.pure (dd := some 4) rfl rfl (op_assign rfl (Opd.tmp _ _ rfl)) ?_
  refine Run.nil (FinD.mk (by kernel_rfl) ?_)
  refine nK ?_
  (first | exact s_o1 hC rfl tV | exact s_o2 hC rfl tV tV | exact s_o3 hC rfl tV tV tV | exact s_o4 hC rfl tV tV tV tV | exact s_out0 hC rfl | exact s_outO hC rfl rfl rfl)
theorem order_c (a b : Pvr) : Pure Try.prog 37 [.agg (encPv a), .agg (encPv b)] (If .i64 (ordV a b)) := by
  have k1 := rcmp_c a.px b.px
  unfold ordV
  refine Meets.intro Try.func37 rfl (Nat.le_of_ble_eq_true rfl) fun C hC => ?_
  simp only [List.map, argEnv, Nat.reduceAdd]
  refine nK ?_
  refine s_reg rfl ?_
  refine Run.eff (dd := some 2) rfl rfl (op_box_flat rfl (Opd.tmp _ _ rfl) tC rfl) ?_
  refine Run.eff (dd := some 3) rfl rfl (op_box_flat rfl (Opd.tmp _ _ rfl) tC rfl) ?_
  refine Run.pure (dd := some 4) rfl rfl (op_assign rfl (Opd.const _)) ?_
  refine Run.nil (FinR.mk ?_)
  refine nK ?_
  refine s_reg rfl ?_
  refine Run.pure (dd := some 6) rfl rfl (op_fld_ptr (by decide) rfl (Opd.tmp _ _ rfl)) ?_
  refine Run.load (dd := some 7) rfl rfl (op_loadn_flat rfl (Opd.tmp _ _ rfl) tH tR tR) ?_
  refine Run.pure (dd := some 8) rfl rfl (op_fld_ptr (by decide) rfl (Opd.tmp _ _ rfl)) ?_
  refine Run.load (dd := some 9) rfl rfl (op_loadn_flat rfl (Opd.tmp _ _ rfl) tH tR tR) ?_
  refine Run.pure (dd := some 10) rfl rfl (op_call_pure (fun _ => k1) rfl (Opd.func _) (Opds.cons _ _ _ _ (Opd.tmp _ _ rfl) (Opds.cons _ _ _ _ (Opd.tmp _ _ rfl) Opds.nil))) ?_
  refine Run.pure (dd := some 5) rfl rfl (op_assign rfl (Opd.tmp _ _ rfl)) ?_
  refine Run.nil (FinR.mk ?_)
  refine nK ?_
  refine s_reg rfl ?_
  refine Run.pure (dd := some 11) rfl rfl (op_move rfl (Opd.tmp _ _ rfl)) ?_
  refine Run.pure (dd := some 12) rfl rfl (op_neq rfl (Opd.tmp _ _ rfl) (Opd.const _)) ?_
  refine Run.nil (FinR.mk ?_)
  refine nK ?_
  refine n_cond _ rfl (fun hb => ?_) (fun hb => ?_)
  · rw [if_pos (by simpa using hb)]
    refine nK ?_
    refine s_reg rfl ?_
    refine Run.pure (dd := some 13) rfl rfl (op_move rfl (Opd.tmp _ _ rfl)) ?_
    refine Run.pure (dd := some 4) rfl rfl (op_assign rfl (Opd.tmp _ _ rfl)) ?_
    refine Run.nil (FinR.mk ?_)
    refine nK ?_
    (first | exact s_o1 hC rfl tV | exact s_o2 hC rfl tV tV | exact s_o3 hC rfl tV tV tV | exact s_o4 hC rfl tV tV tV tV | exact s_out0 hC rfl | exact s_outO hC rfl rfl rfl)
  · rw [if_neg (by simpa using hb)]
    unfold cmpI
    refine nK ?_
    refine s_reg rfl ?_
    refine Run.pure (dd := some 14) rfl rfl (op_fld_ptr (by decide) rfl (Opd.tmp _ _ rfl)) ?_
    refine Run.load (dd := some 15) rfl rfl (op_load1_flat rfl (Opd.tmp _ _ rfl) tH rfl) ?_
    refine Run.pure (dd := some 16) rfl rfl (op_fld_ptr (by decide) rfl (Opd.tmp _ _ rfl)) ?_
    refine Run.load (dd := some 17) rfl rfl (op_load1_flat rfl (Opd.tmp _ _ rfl) tH rfl) ?_
    refine Run.pure (dd := some 18) rfl rfl (op_lss rfl (Opd.tmp _ _ rfl) (Opd.tmp _ _ rfl)) ?_
    refine Run.nil (FinR.mk ?_)
    refine nK ?_
    refine n_cond _ rfl (fun hb => ?_) (fun hb => ?_)
    · rw [if_pos (by simpa using hb)]
      refine nK ?_
      refine s_reg rfl ?_
      refine Run.pure (dd := some 4) rfl rfl (op_assign rfl (Opd.const _)) ?_
      refine Run.nil (FinR.mk ?_)
      refine nK ?_
      (first | exact s_o1 hC rfl tV | exact s_o2 hC rfl tV tV | exact s_o3 hC rfl tV tV tV | exact s_o4 hC rfl tV tV tV tV | exact s_out0 hC rfl | exact s_outO hC rfl rfl rfl)
    · rw [if_neg (by simpa using hb)]
      refine nK ?_
      refine s_reg rfl ?_
      refine Run.pure (dd := some 19) rfl rfl (op_fld_ptr (by decide) rfl (Opd.tmp _ _ rfl)) ?_
      refine Run.load (dd := some 20) rfl rfl (op_load1_flat rfl (Opd.tmp _ _ rfl) tH rfl) ?_
      refine Run.pure (dd := some 21) rfl rfl (op_fld_ptr (by decide) rfl (Opd.tmp _ _ rfl)) ?_
      refine Run.load (dd := some 22) rfl rfl (op_load1_flat rfl (Opd.tmp _ _ rfl) tH rfl) ?_
      refine Run.pure (dd := some 23) rfl rfl (op_gtr rfl (Opd.tmp _ _ rfl) (Opd.tmp _ _ rfl)) ?_
      refine Run.nil (FinR.mk ?_)
      refine nK ?_
      refine n_cond _ rfl (fun hb => ?_) (fun hb => ?_)
      · rw [if_pos (by simpa using hb)]
        refine nK ?_
        refine s_reg rfl ?_
        refine Run.pure (dd := some 4) rfl rfl (op_assign rfl (Opd.const _)) ?_
        refine Run.nil (FinR.mk ?_)
        refine nK ?_
        (first | exact s_o1 hC rfl tV | exact s_o2 hC rfl tV tV | exact s_o3 hC rfl tV tV tV | exact s_o4 hC rfl tV tV tV tV | exact s_out0 hC rfl | exact s_outO hC rfl rfl rfl)
      · rw [if_neg (by simpa using hb)]
        refine nK ?_
        refine s_reg rfl ?_
        refine Run.pure (dd := some 4) rfl rfl (op_assign rfl (Opd.const _)) ?_
        refine Run.nil (FinR.mk ?_)
        refine nK ?_
        (first | exact s_o1 hC rfl tV | exact s_o2 hC rfl tV tV | exact s_o3 hC rfl tV tV tV | exact s_o4 hC rfl tV tV tV tV | exact s_out0 hC rfl | exact s_outO hC rfl rfl rfl)
end Go.Proofs.Ytfkcbglnadjnnaa
/- Inserting routes into tables. No program in sight. -/
namespace Go.Pl
open Go Go.RT
set_option linter.all false
theorem befR_iff {r x : Rte} : befR r x = true ↔ ltRt x r := by unfold befR; rw [decide_eq_true_eq, cmpRt_neg]
theorem mem_ins {r x : Rte} {l : List Rte} : x ∈ insRt r l ↔ x = r ∨ x ∈ l := by
  unfold insRt
  have : x ∈ l ↔ x ∈ l.takeWhile (befR r) ∨ x ∈ l.dropWhile (befR r) := by
    rw [← List.mem_append, List.takeWhile_append_dropWhile]
  rw [List.mem_append, List.mem_cons, this]
  constructor
  · rintro (h | h | h)
    · exact .inr (.inl h)
    · exact .inl h
    · exact .inr (.inr h)
  · rintro (h | h | h)
    · exact .inr (.inl h)
    · exact .inl h
    · exact .inr (.inr h)
theorem ins_len (r : Rte) (l : List Rte) : (insRt r l).length = l.length + 1 := by
  have : l.length = (l.takeWhile (befR r)).length + (l.dropWhile (befR r)).length := by
    rw [← List.length_append, List.takeWhile_append_dropWhile]
  unfold insRt
  rw [List.length_append, List.length_cons, this]; omega
theorem tw_mem {r x : Rte} : ∀ {l : List Rte}, x ∈ l.takeWhile (befR r) → ltRt x r
  | y :: l, h => by
    rw [List.takeWhile_cons] at h
    by_cases hy : befR r y = true
    · rw [if_pos hy] at h
      rcases List.mem_cons.1 h with rfl | h
      · exact befR_iff.1 hy
      · exact tw_mem h
    · rw [if_neg hy] at h; simp at h
theorem dw_mem {r x : Rte} : ∀ {l : List Rte}, l.Pairwise ltRt → (∀ y ∈ l, ¬ (y.pf = r.pf ∧ y.di = r.di ∧ y.pr = r.pr)) → x ∈ l.dropWhile (befR r) → ltRt r x
  | y :: l, hp, hn, h => by
    obtain ⟨h1, h2⟩ := List.pairwise_cons.1 hp
    rw [List.dropWhile_cons] at h
    by_cases hy : befR r y = true
    · rw [if_pos hy] at h
      exact dw_mem h2 (fun z hz => hn z (List.mem_cons_of_mem _ hz)) h
    · rw [if_neg hy] at h
      have hry : ltRt r y := by
        rcases rt_tri y r with k | k | k
        · exact absurd (befR_iff.2 k) hy
        · exact absurd k (hn y (List.mem_cons_self ..))
        · exact k
      rcases List.mem_cons.1 h with rfl | h
      · exact hry
      · exact hry.trans (h1 x h)
theorem ins_asc {r : Rte} {l : List Rte} (hp : l.Pairwise ltRt) (hn : ∀ y ∈ l, ¬ (y.pf = r.pf ∧ y.di = r.di ∧ y.pr = r.pr)) : (insRt r l).Pairwise ltRt := by
  unfold insRt
  refine List.pairwise_append.2 ⟨hp.sublist (List.takeWhile_sublist _), List.pairwise_cons.2 ⟨fun x hx => dw_mem hp hn hx, hp.sublist (List.dropWhile_sublist _)⟩, fun x hx y hy => ?_⟩
  rcases List.mem_cons.1 hy with rfl | hy
  · exact tw_mem hx
  · exact (tw_mem hx).trans (dw_mem hp hn hy)
theorem uni_of {l : List Rte} (h : l.Pairwise fun a b => ¬ sameK a b) {x y : Rte} (hx : x ∈ l) (hy : y ∈ l) (hk : sameK x y) : x = y := by
  induction h with
  | nil => simp at hx
  | cons h1 _ ih =>
    rcases List.mem_cons.1 hx with ex | hx' <;> rcases List.mem_cons.1 hy with ey | hy'
    · exact ex.trans ey.symm
    · subst ex; exact absurd hk (h1 y hy')
    · subst ey; exact absurd ⟨hk.1.symm, hk.2.symm⟩ (h1 x hx')
    · exact ih hx' hy'
theorem uni_mk : ∀ {l : List Rte}, l.Pairwise ltRt → (∀ x ∈ l, ∀ y ∈ l, sameK x y → x = y) → l.Pairwise fun a b => ¬ sameK a b
  | [], _, _ => List.Pairwise.nil
  | x :: l, hp, h => by
    obtain ⟨h1, h2⟩ := List.pairwise_cons.1 hp
    refine List.pairwise_cons.2 ⟨fun y hy hk => ?_, uni_mk h2 fun a ha b hb => h a (List.mem_cons_of_mem _ ha) b (List.mem_cons_of_mem _ hb)⟩
    have := h x (List.mem_cons_self ..) y (List.mem_cons_of_mem _ hy) hk
    subst this
    exact (h1 x hy).irr
/-- what Put makes of a valid table -/
theorem put_ok {l : List Rte} {r : Rte} (h : TabOk l) (hr : checkRt r = 0) (hn : (l.filter fun x => !(decide (x.pf = r.pf) && decide (x.pr = r.pr))).length < 2000) :
    TabOk (insRt r (l.filter fun x => !(decide (x.pf = r.pf) && decide (x.pr = r.pr)))) ∧ ∀ x, x ∈ insRt r (l.filter fun x => !(decide (x.pf = r.pf) && decide (x.pr = r.pr))) ↔ x = r ∨ x ∈ l ∧ ¬ sameK x r := by
  have hm : ∀ x, x ∈ l.filter (fun x => !(decide (x.pf = r.pf) && decide (x.pr = r.pr))) ↔ x ∈ l ∧ ¬ sameK x r := fun x => by
    rw [List.mem_filter]; simp only [sameK, Bool.not_eq_true', Bool.and_eq_false_iff, decide_eq_false_iff_not]; by_cases h1 : x.pf = r.pf <;> by_cases h2 : x.pr = r.pr <;> simp [h1, h2]
  have hmm : ∀ x, x ∈ insRt r (l.filter fun x => !(decide (x.pf = r.pf) && decide (x.pr = r.pr))) ↔ x = r ∨ x ∈ l ∧ ¬ sameK x r := fun x => by
    rw [mem_ins, hm]
  have hasc := ins_asc (r := r) (h.asc.filter fun x => !(decide (x.pf = r.pf) && decide (x.pr = r.pr))) fun y hy k => ((hm y).1 hy).2 ⟨k.1, k.2.2⟩
  refine ⟨⟨by rw [ins_len]; omega, fun x hx => ?_, hasc, uni_mk hasc fun x hx y hy hk => ?_⟩, hmm⟩
  · rcases (hmm x).1 hx with rfl | k
    · exact hr
    · exact h.chk x k.1
  · rcases (hmm x).1 hx with rfl | k1 <;> rcases (hmm y).1 hy with rfl | k2
    · rfl
    · exact absurd ⟨hk.1.symm, hk.2.symm⟩ k2.2
    · exact absurd hk k1.2
    · exact uni_of h.uni k1.1 k2.1 hk
end Go.Pl
/- Replacing routes; active routes. No program in sight. -/
namespace Go.Pl
open Go Go.RT
set_option linter.all false
def insAll (rs o : List Rte) : List Rte := rs.foldl (fun o r => insRt r o) o
abbrev ascPf (l : List Rte) : Prop := l.Pairwise fun a b => ltPf a.pf b.pf
/-- valid tables whose prefixes ascend -/
structure ActOk (l : List Rte) : Prop where
  tab : TabOk l
  asc : ascPf l
theorem act_all : ∀ (l : List Rte) (p : Option Pfx), ascPf l → (∀ q, p = some q → ∀ x ∈ l, ltPf q x.pf) → actGo p l = l
  | [], p, _, _ => rfl
  | y :: l, p, h, hp => by
    obtain ⟨h1, h2⟩ := List.pairwise_cons.1 h
    simp only [actGo]
    have hc : ¬ p = some y.pf := fun e => (hp _ e y (List.mem_cons_self ..)).irr
    rw [if_neg hc, act_all l (some y.pf) h2 fun q hq x hx => by cases hq; exact h1 x hx]; rfl
theorem ActOk.list {l : List Rte} (h : ActOk l) : listF l = l := by
  have he : activeF l = l := by
    unfold activeF
    rw [if_neg (by simp [(check_iff l).2 h.tab]), act_all l none h.asc fun q hq => by cases hq]
  unfold listF
  rw [he, if_neg (by omega)]
end Go.Pl
/- Lists of prefixes, ascending, each once; changes between lists of active routes. No program in sight. -/
namespace Go.Pl
open Go Go.RT
set_option linter.all false
abbrev ascP (l : List Pfx) : Prop := l.Pairwise ltPf
theorem ascP_uniq : ∀ {a b : List Pfx}, ascP a → ascP b → (∀ x, x ∈ a ↔ x ∈ b) → a = b
  | [], [], _, _, _ => rfl
  | [], y :: b, _, _, h => by have := (h y).2 (List.mem_cons_self ..); simp at this
  | x :: a, [], _, _, h => by have := (h x).1 (List.mem_cons_self ..); simp at this
  | x :: a, y :: b, ha, hb, h => by
    obtain ⟨a1, a2⟩ := List.pairwise_cons.1 ha
    obtain ⟨b1, b2⟩ := List.pairwise_cons.1 hb
    have hxy : x = y := by
      rcases List.mem_cons.1 ((h x).1 (List.mem_cons_self ..)) with e | e
      · exact e
      · rcases List.mem_cons.1 ((h y).2 (List.mem_cons_self ..)) with e2 | e2
        · exact e2.symm
        · exact (((b1 x e).trans (a1 y e2)).irr).elim
    subst hxy
    rw [ascP_uniq a2 b2 fun z => ?_]
    constructor
    · intro hz
      rcases List.mem_cons.1 ((h z).1 (List.mem_cons_of_mem _ hz)) with e | e
      · subst e; exact ((a1 z hz).irr).elim
      · exact e
    · intro hz
      rcases List.mem_cons.1 ((h z).2 (List.mem_cons_of_mem _ hz)) with e | e
      · subst e; exact ((b1 z hz).irr).elim
      · exact e
/-- the reference's insertion -/
def insPf (p : Pfx) : Bool → List Pfx → List Pfx
  | d, [] => if d then [] else [p]
  | d, x :: t => (if (decide (cmpP p x ≤ 0) && !d) = true then [p] else []) ++ ((if cmpP p x ≠ 0 then [x] else []) ++ insPf p (d || decide (cmpP p x ≤ 0) && !d) t)
def sortPf (l : List Pfx) : List Pfx := l.foldl (fun o p => insPf p false o) []
theorem insPf_done (p : Pfx) : ∀ {t : List Pfx}, (∀ x ∈ t, ltPf p x) → insPf p true t = t
  | [], _ => rfl
  | x :: t, h => by
    have hx := h x (List.mem_cons_self ..)
    have hn : cmpP p x ≠ 0 := fun e => by have := (cmpP_zero _ _).1 e; subst this; exact hx.irr
    simp only [insPf, Bool.not_true, Bool.and_false, Bool.false_eq_true, if_false, List.nil_append, if_pos hn, Bool.or_false]
    rw [insPf_done p fun y hy => h y (List.mem_cons_of_mem _ hy)]; rfl
theorem insPf_ok (p : Pfx) : ∀ {l : List Pfx}, ascP l → ascP (insPf p false l) ∧ ∀ x, x ∈ insPf p false l ↔ x = p ∨ x ∈ l
  | [], _ => by simp [insPf]
  | y :: l, h => by
    obtain ⟨h1, h2⟩ := List.pairwise_cons.1 h
    obtain ⟨i1, i2⟩ := insPf_ok p h2
    rcases pf_tri p y with k | k | k
    · have hle : cmpP p y ≤ 0 := by have := (cmpP_neg p y).2 k; omega
      have hne : cmpP p y ≠ 0 := by have := (cmpP_neg p y).2 k; omega
      have hd := insPf_done p (t := l) fun x hx => k.trans (h1 x hx)
      have e : insPf p false (y :: l) = p :: y :: l := by
        simp only [insPf, hle, hne, decide_true, Bool.not_false, Bool.and_self, if_true, ne_eq, not_false_iff, Bool.false_or]
        rw [hd]; rfl
      rw [e]
      refine ⟨List.pairwise_cons.2 ⟨fun x hx => ?_, h⟩, fun x => by simp⟩
      rcases List.mem_cons.1 hx with rfl | hx
      · exact k
      · exact k.trans (h1 x hx)
    · subst k
      have h0 : cmpP p p = 0 := (cmpP_zero p p).2 rfl
      have hd := insPf_done p (t := l) h1
      have e : insPf p false (p :: l) = p :: l := by
        simp only [insPf, h0, Int.le_refl, decide_true, Bool.not_false, Bool.and_self, if_true, ne_eq, not_true_eq_false, if_false, Bool.false_or, List.nil_append]
        rw [hd]; rfl
      rw [e]
      exact ⟨h, fun x => by simp⟩
    · have hgt : ¬ cmpP p y ≤ 0 := fun hle => by
        have h3 : ¬ cmpP p y < 0 := fun q => (((cmpP_neg p y).1 q).trans k).irr
        have := (cmpP_zero p y).1 (by omega)
        subst this; exact k.irr
      have hne : cmpP p y ≠ 0 := by omega
      have e : insPf p false (y :: l) = y :: insPf p false l := by
        simp only [insPf, hgt, hne, decide_false, Bool.not_false, Bool.and_true, Bool.false_eq_true, if_false, ne_eq, not_false_iff, if_true, Bool.or_false, List.nil_append]; rfl
      rw [e]
      refine ⟨List.pairwise_cons.2 ⟨fun x hx => ?_, i1⟩, fun x => ?_⟩
      · rcases (i2 x).1 hx with rfl | hx
        · exact k
        · exact h1 x hx
      · rw [List.mem_cons, i2, List.mem_cons]
        constructor
        · rintro (h | h | h)
          · exact .inr (.inl h)
          · exact .inl h
          · exact .inr (.inr h)
        · rintro (h | h | h)
          · exact .inr (.inl h)
          · exact .inl h
          · exact .inr (.inr h)
theorem sortPf_go : ∀ (l o : List Pfx), ascP o → ascP (l.foldl (fun o p => insPf p false o) o) ∧ ∀ x, x ∈ l.foldl (fun o p => insPf p false o) o ↔ x ∈ l ∨ x ∈ o
  | [], o, h => ⟨h, by simp⟩
  | p :: l, o, h => by
    obtain ⟨h1, h2⟩ := insPf_ok p h
    obtain ⟨k1, k2⟩ := sortPf_go l _ h1
    refine ⟨k1, fun x => ?_⟩
    rw [List.foldl_cons, k2, h2, List.mem_cons]
    constructor
    · rintro (h | h | h)
      · exact .inl (.inr h)
      · exact .inl (.inl h)
      · exact .inr h
    · rintro ((h | h) | h)
      · exact .inr (.inl h)
      · exact .inl h
      · exact .inr (.inr h)
theorem sortPf_asc (l : List Pfx) : ascP (sortPf l) := (sortPf_go l [] List.Pairwise.nil).1
theorem sortPf_mem (l : List Pfx) (x : Pfx) : x ∈ sortPf l ↔ x ∈ l := by
  have := (sortPf_go l [] List.Pairwise.nil).2 x
  rw [show sortPf l = l.foldl (fun o p => insPf p false o) [] from rfl, this]; simp
theorem sortPf_uniq {a l : List Pfx} (h1 : ascP a) (h2 : ∀ x, x ∈ a ↔ x ∈ l) : a = sortPf l := ascP_uniq h1 (sortPf_asc l) fun x => (h2 x).trans (sortPf_mem l x).symm
end Go.Pl
/- Steps of the loops over hops and routes. No program in sight. -/
namespace Go.Pl
open Go Go.RT
set_option linter.all false
def prvG {α : Type} (l : List α) (i : Nat) : Option α := if i = 0 then none else l[i - 1]?
theorem prvG_succ {α : Type} {l : List α} {i : Nat} (h : i < l.length) : prvG l (i + 1) = some l[i] := by simp [prvG, h]
theorem prvG_zero {α : Type} (l : List α) : prvG l 0 = none := rfl
theorem prv_row {α : Type} (f : α → List FV) (l : List α) (d : α) {i : Nat} (h : i ≤ l.length) : ∃ q, 0 < i → prvG l i = some q ∧ (l.map f)[i - 1]? = some (f q) := by
  by_cases h0 : 0 < i
  · exact ⟨l[i - 1], fun _ => ⟨by simp [prvG]; omega, by rw [List.getElem?_map, List.getElem?_eq_getElem (by omega)]; rfl⟩⟩
  · exact ⟨d, fun h => absurd h h0⟩
def zRte : Rte := ⟨⟨0, 0⟩, 0, 0, 0, 0, []⟩
theorem take_last {α : Type} (l : List α) {i : Nat} (h : i ≤ l.length) : (l.take i).getLast? = prvG l i := by
  by_cases h0 : i = 0
  · subst h0; simp [prvG]
  · rw [List.getLast?_eq_getElem?, List.length_take, Nat.min_eq_left h]
    simp only [prvG, h0, if_false]
    rw [List.getElem?_take, if_pos (by omega)]
end Go.Pl
/- The checks of attributes. No program in sight. -/
namespace Go.Pl
open Go Go.RT
set_option linter.all false
def fstI : List Int → Int
  | [] => 0
  | x :: l => if x ≠ 0 then x else fstI l
def whenE (b : Bool) (e : Int) : Int := if b = true then e else 0
def optE (has : Bool) (n low : Int) : Int := if (has && (decide (n < low) || decide (4294967295 < n))) = true then 5 else if (!has && decide (n ≠ 0)) = true then 1 else 0
def zerosGo : List Int → Int
  | [] => 0
  | x :: t => if x = 0 then 1 else zerosGo t
def clsE (l : List Int) : Int := if 64 < l.length then 4 else zerosGo l
def leP : Option Int → Int → Bool
  | none, _ => false
  | some q, x => decide (x ≤ q)
def ascGo : Option Int → List Int → Int
  | _, [] => 0
  | p, x :: t => if leP p x = true then 16 else ascGo (some x) t
def commE (l : List Int) : Int := if 255 < l.length then 4 else ascGo none l
def leT : Option Tlv → Tlv → Bool
  | none, _ => false
  | some q, x => decide (x.k ≤ q.k)
def unkGo : Option Tlv → List Tlv → Int
  | _, [] => 0
  | p, x :: t => if (decide (x.k ≤ 10) || decide (255 < x.k)) = true then 15 else if leT p x = true then 16 else if 255 < x.v.length then 4 else unkGo (some x) t
def unkE (l : List Tlv) : Int := if 64 < l.length then 4 else unkGo none l
def amongB (k : Int) (l : List Int) : Bool := l.any fun x => decide (x = k)
def confB (k : Int) : Bool := amongB k [3, 4]
def rngGo : List Int → Int
  | [] => 0
  | x :: t => if (decide (x < 1) || decide (4294967295 < x)) = true then 5 else rngGo t
def segE (s : Seg) : Int :=
  if (!amongB s.k [1, 2, 3, 4]) = true then 15 else if s.as'.length = 0 then 1 else if 255 < s.as'.length then 4 else
  if rngGo s.as' ≠ 0 then rngGo s.as' else if amongB s.k [1, 4] = true then ascGo none s.as' else 0
def mrgB : Option Seg → Seg → Bool
  | none, _ => false
  | some q, x => amongB x.k [2, 3] && decide (q.k = x.k) && decide (q.as'.length < 255)
def plainB (s : List Seg) : Bool := s.any fun x => !confB x.k
def pthGo : List Seg → List Seg → Int
  | _, [] => 0
  | s, x :: t => if segE x ≠ 0 then segE x else if (confB x.k && plainB s) = true then 1 else if mrgB s.getLast? x = true then 1 else pthGo (s ++ [x]) t
def pthE (p : List Seg) : Int := if 64 < p.length then 4 else pthGo [] p
def attE (a : Att) : Int := fstI [whenE (decide (a.or' < 0) || decide (2 < a.or')) 5, pthE a.pa, whenE (decide (a.nh = 0)) 1, optE a.hm a.md 0, optE a.hp a.pf 0, optE a.ha a.aa 1, whenE (!a.ha && decide (a.ad ≠ 0)) 1, commE a.co, whenE (decide (a.ho = decide (a.og = 0))) 1, clsE a.cl, unkE a.un]
theorem asc_step {l : List Int} {i : Nat} (h : i < l.length) : ascGo (prvG l i) (l.drop i) = if leP (prvG l i) l[i] = true then 16 else ascGo (prvG l (i + 1)) (l.drop (i + 1)) := by
  rw [List.drop_eq_getElem_cons h, prvG_succ h]; rfl
theorem unk_step {l : List Tlv} {i : Nat} (h : i < l.length) : unkGo (prvG l i) (l.drop i) = if (decide (l[i].k ≤ 10) || decide (255 < l[i].k)) = true then 15 else if leT (prvG l i) l[i] = true then 16 else if 255 < l[i].v.length then 4 else unkGo (prvG l (i + 1)) (l.drop (i + 1)) := by
  rw [List.drop_eq_getElem_cons h, prvG_succ h]; rfl
theorem pth_step {l : List Seg} {i : Nat} (h : i < l.length) : pthGo (l.take i) (l.drop i) = if segE l[i] ≠ 0 then segE l[i] else if (confB l[i].k && plainB (l.take i)) = true then 1 else if mrgB (prvG l i) l[i] = true then 1 else pthGo (l.take (i + 1)) (l.drop (i + 1)) := by
  rw [List.drop_eq_getElem_cons h, List.take_succ_eq_append_getElem h, ← take_last l (by omega)]; rfl
theorem plain_take {l : List Seg} {i : Nat} (h : i < l.length) : plainB (l.take (i + 1)) = (plainB (l.take i) || !confB l[i].k) := by
  unfold plainB
  rw [List.take_succ_eq_append_getElem h, List.any_append]; simp
theorem leP_pos {i : Nat} {q x : Int} {l : List Int} (hq : 0 < i → prvG l i = some q) : leP (prvG l i) x = (decide (0 < (i : Int)) && decide (x ≤ q)) := by
  by_cases h0 : 0 < i
  · rw [hq h0]; simp [leP, h0]
  · have : i = 0 := by omega
    subst this; simp [prvG, leP]
theorem leT_pos {i : Nat} {q x : Tlv} {l : List Tlv} (hq : 0 < i → prvG l i = some q) : leT (prvG l i) x = (decide (0 < (i : Int)) && decide (x.k ≤ q.k)) := by
  by_cases h0 : 0 < i
  · rw [hq h0]; simp [leT, h0]
  · have : i = 0 := by omega
    subst this; simp [prvG, leT]
theorem mrg_pos {i : Nat} {q x : Seg} {l : List Seg} (hq : 0 < i → prvG l i = some q) : mrgB (prvG l i) x = (((decide (0 < (i : Int)) && amongB x.k [2, 3]) && decide (q.k = x.k)) && decide ((q.as'.length : Int) < 255)) := by
  by_cases h0 : 0 < i
  · rw [hq h0]
    have : decide ((q.as'.length : Int) < 255) = decide (q.as'.length < 255) := by simp; omega
    rw [this]; simp [mrgB, h0]
  · have : i = 0 := by omega
    subst this; simp [prvG, mrgB]
end Go.Pl
namespace Go.Proofs.Ytfkcbglnadjnnaa
open Go Go.RT Go.Proofs Go.Pl
set_option linter.all false
set_option maxRecDepth 20000
theorem fst_c (l : List Int) (hn : l.length ≤ 1000000) : Pure Try.prog 75 [VI l] (If .i64 (fstI l)) := by
  refine Meets.intro Try.func75 rfl (Nat.le_of_ble_eq_true rfl) fun C hC => ?_
  simp only [List.map, argEnv, Nat.reduceAdd]
  refine nK ?_
  refine s_reg rfl ?_
  refine Run.pure (dd := some 2) rfl rfl (op_assign rfl (Opd.const _)) ?_
  refine Run.nil (FinR.mk ?_)
  refine nK ?_
  refine s_reg rfl ?_
  refine Run.pure (dd := some 5) rfl rfl (op_move rfl (Opd.tmp _ _ rfl)) ?_
  refine Run.pure (dd := some 6) rfl rfl (op_len_fz rfl (by first | exact Opd.tmp _ _ rfl | exact Opd.nil _ _ (Opd.tmp _ _ rfl)) (by first | exact List.length_map _ | rfl)) ?_
  refine Run.pure (dd := some 7) rfl rfl (op_move rfl (Opd.const _)) ?_
  refine Run.nil (FinR.mk ?_)
  refine nK ?_
  refine n_loop (ι := Nat) (fun i => ([(5, .fz (VI l)), (6, IV .i64 l.length), (7, IV .i64 i)], [], 0)) (fun i => i ≤ l.length ∧ fstI (l.drop i) = fstI l) (fun i => l.length - i) 0 ⟨Nat.zero_le _, rfl⟩ ?_ ?_
  · refine Next.weak [] [] (by rfl) (keeps0 hC _) (by repeat (first | exact trivial | refine ⟨⟨_, rfl, .inl ⟨rfl, rfl⟩⟩, ?_⟩)) (by repeat (first | exact trivial | refine ⟨ent_same rfl rfl rfl tL, ?_⟩ | refine ⟨ent_same rfl rfl (rfEq rfl tU) tL, ?_⟩ | refine ⟨ent_same rfl rfl (flEq rfl (by first | (simp; done) | (simp; omega) | (simp [encP, encAt, encSg, encTl, encW, encN, encY]; done) | simp [maxC, minC])) trivial, ?_⟩)) (fun _ h => by simp at h) rel_intro
  · intro i ⟨hi, ho⟩ K hK
    refine nK ?_
    refine s_reg rfl ?_
    refine Run.pure (dd := some 8) rfl rfl (op_lss rfl (Opd.tmp _ _ rfl) (Opd.tmp _ _ rfl)) ?_
    refine Run.nil (FinR.mk ?_)
    refine nK ?_
    refine n_cond _ rfl (fun hb => ?_) (fun hb => ?_)
    · have hlt : i < l.length := by simp at hb; omega
      have hr1 := row_at' encN l i hlt
      rw [List.drop_eq_getElem_cons hlt] at ho
      simp only [fstI] at ho
      have hK1 := fun h => hK (i + 1) ⟨by omega, h⟩ (by omega)
      generalize l[i] = x at *
      refine nK ?_
      refine s_reg rfl ?_
      refine Run.pure (dd := some 9) rfl rfl (op_idx_fz _ rfl (Opd.tmp _ _ rfl) (Opd.tmp _ _ rfl) tF) ?_
      refine Run.pure (dd := some 10) rfl rfl (op_load1_fz rfl (Opd.tmp _ _ rfl) rfl) ?_
      refine Run.pure (dd := some 4) rfl rfl (op_assign rfl (Opd.tmp _ _ rfl)) ?_
      refine Run.nil (FinR.mk ?_)
      refine nK ?_
      refine s_reg rfl ?_
      refine Run.pure (dd := some 11) rfl rfl (op_move rfl (Opd.tmp _ _ rfl)) ?_
      refine Run.pure (dd := some 12) rfl rfl (op_neq rfl (Opd.tmp _ _ rfl) (Opd.const _)) ?_
      refine Run.nil (FinR.mk ?_)
      refine nK ?_
      refine n_cond _ rfl (fun hb => ?_) (fun hb => ?_)
      · rw [if_pos (by simpa using hb)] at ho
        rw [← ho]
        refine nK ?_
        refine s_reg rfl ?_
        refine Run.pure (dd := some 13) rfl rfl (op_move rfl (Opd.tmp _ _ rfl)) ?_
        refine Run.pure (dd := some 2) rfl rfl (op_assign rfl (Opd.tmp _ _ rfl)) ?_
        refine Run.nil (FinR.mk ?_)
        refine nK ?_
        (first | exact s_o1 hC rfl tV | exact s_o2 hC rfl tV tV | exact s_o3 hC rfl tV tV tV | exact s_o4 hC rfl tV tV tV tV | exact s_out0 hC rfl | exact s_outO hC rfl rfl rfl)
      · rw [if_neg (by simpa using hb)] at ho
        refine nK ?_
        refine s_reg rfl ?_
        refine Run.pure (dd := some 14) rfl rfl (op_add rfl (Opd.tmp _ _ rfl) (Opd.const _) tI) ?_
        refine Run.pure (dd := some 7) rfl rfl (op_move rfl (Opd.tmp _ _ rfl)) ?_
        refine Run.nil (FinR.mk ?_)
        refine nK ?_
        refine Next.weak [] [] (by rfl) (keeps0 hC _) (by repeat (first | exact trivial | refine ⟨⟨_, rfl, .inl ⟨rfl, rfl⟩⟩, ?_⟩)) (by repeat (first | exact trivial | refine ⟨ent_same rfl rfl rfl tL, ?_⟩ | refine ⟨ent_same rfl rfl (rfEq rfl tU) tL, ?_⟩ | refine ⟨ent_same rfl rfl (flEq rfl (by first | (simp; done) | (simp; omega) | (simp [encP, encAt, encSg, encTl, encW, encN, encY]; done) | simp [maxC, minC])) trivial, ?_⟩)) (fun _ h => by simp at h) (hK1 ho)
    · have hie : i = l.length := by simp at hb; omega
      rw [hie, List.drop_length] at ho
      rw [← ho]
      refine nK ?_
      refine s_reg rfl ?_
      refine Run.pure (dd := some 2) rfl rfl (op_assign rfl (Opd.const _)) ?_
      refine Run.nil (FinR.mk ?_)
      refine nK ?_
      (first | exact s_o1 hC rfl tV | exact s_o2 hC rfl tV tV | exact s_o3 hC rfl tV tV tV | exact s_o4 hC rfl tV tV tV tV | exact s_out0 hC rfl | exact s_outO hC rfl rfl rfl)
theorem when_c (b : Bool) (e : Int) : Pure Try.prog 76 [Bf b, If .i64 e] (If .i64 (whenE b e)) := by
  unfold whenE
  refine Meets.intro Try.func76 rfl (Nat.le_of_ble_eq_true rfl) fun C hC => ?_
  simp only [List.map, argEnv, Nat.reduceAdd]
  refine nK ?_
  refine s_reg rfl ?_
  refine Run.pure (dd := some 4) rfl rfl (op_assign rfl (Opd.const _)) ?_
  refine Run.nil (FinR.mk ?_)
  refine nK ?_
  refine s_reg rfl ?_
  refine Run.pure (dd := some 5) rfl rfl (op_move rfl (Opd.tmp _ _ rfl)) ?_
  refine Run.nil (FinR.mk ?_)
  refine nK ?_
  refine n_cond _ rfl (fun hb => ?_) (fun hb => ?_)
  · rw [if_pos hb]
    refine nK ?_
    refine s_reg rfl ?_
    refine Run.pure (dd := some 6) rfl rfl (op_move rfl (Opd.tmp _ _ rfl)) ?_
    refine Run.pure (dd := some 4) rfl rfl (op_assign rfl (Opd.tmp _ _ rfl)) ?_
    refine Run.nil (FinR.mk ?_)
    refine nK ?_
    (first | exact s_o1 hC rfl tV | exact s_o2 hC rfl tV tV | exact s_o3 hC rfl tV tV tV | exact s_o4 hC rfl tV tV tV tV | exact s_out0 hC rfl | exact s_outO hC rfl rfl rfl)
  · rw [if_neg (by rw [hb]; decide)]
    refine nK ?_
    refine s_reg rfl ?_
    refine Run.pure (dd := some 4) rfl rfl (op_assign rfl (Opd.const _)) ?_
    refine Run.nil (FinR.mk ?_)
    refine nK ?_
    (first | exact s_o1 hC rfl tV | exact s_o2 hC rfl tV tV | exact s_o3 hC rfl tV tV tV | exact s_o4 hC rfl tV tV tV tV | exact s_out0 hC rfl | exact s_outO hC rfl rfl rfl)
theorem opt_c (b : Bool) (n low : Int) : Pure Try.prog 78 [Bf b, If .i64 n, If .i64 low] (If .i64 (optE b n low)) := by
  unfold optE
  refine Meets.intro Try.func78 rfl (Nat.le_of_ble_eq_true rfl) fun C hC => ?_
  simp only [List.map, argEnv, Nat.reduceAdd]
  refine nK ?_
  refine s_reg rfl ?_
  refine Run.pure (dd := some 6) rfl rfl (op_assign rfl (Opd.const _)) ?_
  refine Run.nil (FinR.mk ?_)
  refine nK ?_
  refine s_reg rfl ?_
  refine Run.pure (dd := some 8) rfl rfl (op_move rfl (Opd.tmp _ _ rfl)) ?_
  refine Run.pure (dd := some 9) rfl rfl (op_move rfl (Opd.tmp _ _ rfl)) ?_
  refine Run.pureG (dd := some 10) rfl rfl rfl tG (op_move rfl (Opd.tmp _ _ rfl)) ?_
  refine Run.pureG (dd := some 11) rfl rfl rfl tG (op_move rfl (Opd.tmp _ _ rfl)) ?_
  refine Run.pureG (dd := some 12) rfl rfl rfl tG (op_lss rfl (Opd.topt _ _ _ rfl tO) (Opd.topt _ _ _ rfl tO)) ?_
  refine Run.pureG (dd := some 13) rfl rfl rfl tG (op_move rfl (Opd.topt _ _ _ rfl tO)) ?_
  refine Run.pureG (dd := some 14) rfl rfl rfl tG (op_move rfl (Opd.tmp _ _ rfl)) ?_
  refine Run.pureG (dd := some 15) rfl rfl rfl tG (op_gtr rfl (Opd.topt _ _ _ rfl tO) (Opd.const _)) ?_
  refine Run.pureG (dd := some 16) rfl rfl rfl tG (op_pick_or rfl (Opd.topt _ _ _ rfl tO) (Opd.topt _ _ _ rfl tO)) ?_
  refine Run.pure (dd := some 17) rfl rfl (op_pick_and rfl (Opd.tmp _ _ rfl) (Opd.topt _ _ _ rfl tO)) ?_
  refine Run.pure (dd := some 7) rfl rfl (op_assign rfl (Opd.tmp _ _ rfl)) ?_
  refine Run.nil (FinR.mk ?_)
  refine nK ?_
  refine n_cond _ rfl (fun hb => ?_) (fun hb => ?_)
  · rw [if_pos hb]
    refine nK ?_
    refine s_reg rfl ?_
    refine Run.pure (dd := some 6) rfl rfl (op_assign rfl (Opd.const _)) ?_
    refine Run.nil (FinR.mk ?_)
    refine nK ?_
    (first | exact s_o1 hC rfl tV | exact s_o2 hC rfl tV tV | exact s_o3 hC rfl tV tV tV | exact s_o4 hC rfl tV tV tV tV | exact s_out0 hC rfl | exact s_outO hC rfl rfl rfl)
  · rw [if_neg (by rw [hb]; decide)]
    refine nK ?_
    refine s_reg rfl ?_
    refine Run.pure (dd := some 19) rfl rfl (op_move rfl (Opd.tmp _ _ rfl)) ?_
    refine Run.pure (dd := some 20) rfl rfl (op_not rfl (Opd.tmp _ _ rfl)) ?_
    refine Run.pure (dd := some 21) rfl rfl (op_move rfl (Opd.tmp _ _ rfl)) ?_
    refine Run.pureG (dd := some 22) rfl rfl rfl tG (op_move rfl (Opd.tmp _ _ rfl)) ?_
    refine Run.pureG (dd := some 23) rfl rfl rfl tG (op_neq rfl (Opd.topt _ _ _ rfl tO) (Opd.const _)) ?_
    refine Run.pure (dd := some 24) rfl rfl (op_pick_and rfl (Opd.tmp _ _ rfl) (Opd.topt _ _ _ rfl tO)) ?_
    refine Run.pure (dd := some 18) rfl rfl (op_assign rfl (Opd.tmp _ _ rfl)) ?_
    refine Run.nil (FinR.mk ?_)
    refine nK ?_
    refine n_cond _ rfl (fun hb => ?_) (fun hb => ?_)
    · rw [if_pos hb]
      refine nK ?_
      refine s_reg rfl ?_
      refine Run.pure (dd := some 6) rfl rfl (op_assign rfl (Opd.const _)) ?_
      refine Run.nil (FinR.mk ?_)
      refine nK ?_
      (first | exact s_o1 hC rfl tV | exact s_o2 hC rfl tV tV | exact s_o3 hC rfl tV tV tV | exact s_o4 hC rfl tV tV tV tV | exact s_out0 hC rfl | exact s_outO hC rfl rfl rfl)
    · rw [if_neg (by rw [hb]; decide)]
      refine nK ?_
      refine s_reg rfl ?_
      refine Run.pure (dd := some 6) rfl rfl (op_assign rfl (Opd.const _)) ?_
      refine Run.nil (FinR.mk ?_)
      refine nK ?_
      (first | exact s_o1 hC rfl tV | exact s_o2 hC rfl tV tV | exact s_o3 hC rfl tV tV tV | exact s_o4 hC rfl tV tV tV tV | exact s_out0 hC rfl | exact s_outO hC rfl rfl rfl)
theorem cls_c (l : List Int) (hn : l.length ≤ 2000000) : Pure Try.prog 80 [VW l] (If .i64 (clsE l)) := by
  unfold clsE
  refine Meets.intro Try.func80 rfl (Nat.le_of_ble_eq_true rfl) fun C hC => ?_
  simp only [List.map, argEnv, Nat.reduceAdd]
  refine nK ?_
  refine s_reg rfl ?_
  refine Run.pure (dd := some 2) rfl rfl (op_assign rfl (Opd.const _)) ?_
  refine Run.nil (FinR.mk ?_)
  refine nK ?_
  refine s_reg rfl ?_
  refine Run.pure (dd := some 5) rfl rfl (op_move rfl (Opd.tmp _ _ rfl)) ?_
  refine Run.pure (dd := some 6) rfl rfl (op_len_fz rfl (by first | exact Opd.tmp _ _ rfl | exact Opd.nil _ _ (Opd.tmp _ _ rfl)) (by first | exact List.length_map _ | rfl)) ?_
  refine Run.pure (dd := some 7) rfl rfl (op_gtr rfl (Opd.tmp _ _ rfl) (Opd.const _)) ?_
  refine Run.nil (FinR.mk ?_)
  refine nK ?_
  refine n_cond _ rfl (fun hb => ?_) (fun hb => ?_)
  · rw [if_pos (by simp at hb; omega)]
    refine nK ?_
    refine s_reg rfl ?_
    refine Run.pure (dd := some 2) rfl rfl (op_assign rfl (Opd.const _)) ?_
    refine Run.nil (FinR.mk ?_)
    refine nK ?_
    (first | exact s_o1 hC rfl tV | exact s_o2 hC rfl tV tV | exact s_o3 hC rfl tV tV tV | exact s_o4 hC rfl tV tV tV tV | exact s_out0 hC rfl | exact s_outO hC rfl rfl rfl)
  · rw [if_neg (by simp at hb; omega)]
    refine nK ?_
    refine s_reg rfl ?_
    refine Run.pure (dd := some 8) rfl rfl (op_move rfl (Opd.tmp _ _ rfl)) ?_
    refine Run.pure (dd := some 9) rfl rfl (op_len_fz rfl (by first | exact Opd.tmp _ _ rfl | exact Opd.nil _ _ (Opd.tmp _ _ rfl)) (by first | exact List.length_map _ | rfl)) ?_
    refine Run.pure (dd := some 10) rfl rfl (op_move rfl (Opd.const _)) ?_
    refine Run.nil (FinR.mk ?_)
    refine nK ?_
    refine n_loop (ι := Nat) (fun i => ([(8, .fz (VW l)), (9, IV .i64 l.length), (10, IV .i64 i)], [], 0)) (fun i => i ≤ l.length ∧ zerosGo (l.drop i) = zerosGo l) (fun i => l.length - i) 0 ⟨Nat.zero_le _, rfl⟩ ?_ ?_
    · refine Next.weak [] [] (by rfl) (keeps0 hC _) (by repeat (first | exact trivial | refine ⟨⟨_, rfl, .inl ⟨rfl, rfl⟩⟩, ?_⟩)) (by repeat (first | exact trivial | refine ⟨ent_same rfl rfl rfl tL, ?_⟩ | refine ⟨ent_same rfl rfl (rfEq rfl tU) tL, ?_⟩ | refine ⟨ent_same rfl rfl (flEq rfl (by first | (simp; done) | (simp; omega) | (simp [encP, encAt, encSg, encTl, encW, encN, encY]; done) | simp [maxC, minC])) trivial, ?_⟩)) (fun _ h => by simp at h) rel_intro
    · intro i ⟨hi, ho⟩ K hK
      refine nK ?_
      refine s_reg rfl ?_
      refine Run.pure (dd := some 11) rfl rfl (op_lss rfl (Opd.tmp _ _ rfl) (Opd.tmp _ _ rfl)) ?_
      refine Run.nil (FinR.mk ?_)
      refine nK ?_
      refine n_cond _ rfl (fun hb => ?_) (fun hb => ?_)
      · have hlt : i < l.length := by simp at hb; omega
        have hr1 := row_at' encW l i hlt
        rw [List.drop_eq_getElem_cons hlt] at ho
        simp only [zerosGo] at ho
        have hK1 := fun h => hK (i + 1) ⟨by omega, h⟩ (by omega)
        generalize l[i] = x at *
        refine nK ?_
        refine s_reg rfl ?_
        refine Run.pure (dd := some 12) rfl rfl (op_idx_fz _ rfl (Opd.tmp _ _ rfl) (Opd.tmp _ _ rfl) tF) ?_
        refine Run.pure (dd := some 13) rfl rfl (op_load1_fz rfl (Opd.tmp _ _ rfl) rfl) ?_
        refine Run.pure (dd := some 4) rfl rfl (op_assign rfl (Opd.tmp _ _ rfl)) ?_
        refine Run.nil (FinR.mk ?_)
        refine nK ?_
        refine s_reg rfl ?_
        refine Run.pure (dd := some 14) rfl rfl (op_move rfl (Opd.tmp _ _ rfl)) ?_
        refine Run.pure (dd := some 15) rfl rfl (op_eql rfl (Opd.tmp _ _ rfl) (Opd.const _)) ?_
        refine Run.nil (FinR.mk ?_)
        refine nK ?_
        refine n_cond _ rfl (fun hb => ?_) (fun hb => ?_)
        · rw [if_pos (by simpa using hb)] at ho
          rw [← ho]
          refine nK ?_
          refine s_reg rfl ?_
          refine Run.pure (dd := some 2) rfl rfl (op_assign rfl (Opd.const _)) ?_
          refine Run.nil (FinR.mk ?_)
          refine nK ?_
          (first | exact s_o1 hC rfl tV | exact s_o2 hC rfl tV tV | exact s_o3 hC rfl tV tV tV | exact s_o4 hC rfl tV tV tV tV | exact s_out0 hC rfl | exact s_outO hC rfl rfl rfl)
        · rw [if_neg (by simpa using hb)] at ho
          refine nK ?_
          refine s_reg rfl ?_
          refine Run.pure (dd := some 16) rfl rfl (op_add rfl (Opd.tmp _ _ rfl) (Opd.const _) tI) ?_
          refine Run.pure (dd := some 10) rfl rfl (op_move rfl (Opd.tmp _ _ rfl)) ?_
          refine Run.nil (FinR.mk ?_)
          refine nK ?_
          refine Next.weak [] [] (by rfl) (keeps0 hC _) (by repeat (first | exact trivial | refine ⟨⟨_, rfl, .inl ⟨rfl, rfl⟩⟩, ?_⟩)) (by repeat (first | exact trivial | refine ⟨ent_same rfl rfl rfl tL, ?_⟩ | refine ⟨ent_same rfl rfl (rfEq rfl tU) tL, ?_⟩ | refine ⟨ent_same rfl rfl (flEq rfl (by first | (simp; done) | (simp; omega) | (simp [encP, encAt, encSg, encTl, encW, encN, encY]; done) | simp [maxC, minC])) trivial, ?_⟩)) (fun _ h => by simp at h) (hK1 ho)
      · have hie : i = l.length := by simp at hb; omega
        rw [hie, List.drop_length] at ho
        rw [← ho]
        simp only [zerosGo]
        refine nK ?_
        refine s_reg rfl ?_
        refine Run.pure (dd := some 2) rfl rfl (op_assign rfl (Opd.const _)) ?_
        refine Run.nil (FinR.mk ?_)
        refine nK ?_
        (first | exact s_o1 hC rfl tV | exact s_o2 hC rfl tV tV | exact s_o3 hC rfl tV tV tV | exact s_o4 hC rfl tV tV tV tV | exact s_out0 hC rfl | exact s_outO hC rfl rfl rfl)
theorem unk_c (l : List Tlv) (hn : l.length ≤ 2000000) : Pure Try.prog 81 [VTl l] (If .i64 (unkE l)) := by
  unfold unkE
  refine Meets.intro Try.func81 rfl (Nat.le_of_ble_eq_true rfl) fun C hC => ?_
  simp only [List.map, argEnv, Nat.reduceAdd]
  refine nK ?_
  refine s_reg rfl ?_
  refine Run.pure (dd := some 2) rfl rfl (op_assign rfl (Opd.const _)) ?_
  refine Run.nil (FinR.mk ?_)
  refine nK ?_
  refine s_reg rfl ?_
  refine Run.pure (dd := some 5) rfl rfl (op_move rfl (Opd.tmp _ _ rfl)) ?_
  refine Run.pure (dd := some 6) rfl rfl (op_len_fz rfl (by first | exact Opd.tmp _ _ rfl | exact Opd.nil _ _ (Opd.tmp _ _ rfl)) (by first | exact List.length_map _ | rfl)) ?_
  refine Run.pure (dd := some 7) rfl rfl (op_gtr rfl (Opd.tmp _ _ rfl) (Opd.const _)) ?_
  refine Run.nil (FinR.mk ?_)
  refine nK ?_
  refine n_cond _ rfl (fun hb => ?_) (fun hb => ?_)
  · rw [if_pos (by simp at hb; omega)]
    refine nK ?_
    refine s_reg rfl ?_
    refine Run.pure (dd := some 2) rfl rfl (op_assign rfl (Opd.const _)) ?_
    refine Run.nil (FinR.mk ?_)
    refine nK ?_
    (first | exact s_o1 hC rfl tV | exact s_o2 hC rfl tV tV | exact s_o3 hC rfl tV tV tV | exact s_o4 hC rfl tV tV tV tV | exact s_out0 hC rfl | exact s_outO hC rfl rfl rfl)
  · rw [if_neg (by simp at hb; omega)]
    refine nK ?_
    refine s_reg rfl ?_
    refine Run.pure (dd := some 8) rfl rfl (op_move rfl (Opd.tmp _ _ rfl)) ?_
    refine Run.pure (dd := some 9) rfl rfl (op_len_fz rfl (by first | exact Opd.tmp _ _ rfl | exact Opd.nil _ _ (Opd.tmp _ _ rfl)) (by first | exact List.length_map _ | rfl)) ?_
    refine Run.pure (dd := some 10) rfl rfl (op_move rfl (Opd.const _)) ?_
    refine Run.nil (FinR.mk ?_)
    refine nK ?_
    refine n_loop (ι := Nat) (fun i => ([(0, .fz (VTl l)), (8, .fz (VTl l)), (9, IV .i64 l.length), (10, IV .i64 i)], [], 0)) (fun i => i ≤ l.length ∧ unkGo (prvG l i) (l.drop i) = unkGo none l) (fun i => l.length - i) 0 ⟨Nat.zero_le _, rfl⟩ ?_ ?_
    · refine Next.weak [] [] (by rfl) (keeps0 hC _) (by repeat (first | exact trivial | refine ⟨⟨_, rfl, .inl ⟨rfl, rfl⟩⟩, ?_⟩)) (by repeat (first | exact trivial | refine ⟨ent_same rfl rfl rfl tL, ?_⟩ | refine ⟨ent_same rfl rfl (rfEq rfl tU) tL, ?_⟩ | refine ⟨ent_same rfl rfl (flEq rfl (by first | (simp; done) | (simp; omega) | (simp [encP, encAt, encSg, encTl, encW, encN, encY]; done) | simp [maxC, minC])) trivial, ?_⟩)) (fun _ h => by simp at h) rel_intro
    · intro i ⟨hi, ho⟩ K hK
      refine nK ?_
      refine s_reg rfl ?_
      refine Run.pure (dd := some 11) rfl rfl (op_lss rfl (Opd.tmp _ _ rfl) (Opd.tmp _ _ rfl)) ?_
      refine Run.nil (FinR.mk ?_)
      refine nK ?_
      refine n_cond _ rfl (fun hb => ?_) (fun hb => ?_)
      · have hlt : i < l.length := by simp at hb; omega
        have hr1 := row_at' encTl l i hlt
        obtain ⟨q, hq⟩ := prv_row encTl l ⟨0, []⟩ (by omega : i ≤ l.length)
        rw [unk_step hlt] at ho
        have hK1 := fun h => hK (i + 1) ⟨by omega, h⟩ (by omega)
        generalize l[i] = x at *
        rw [leT_pos (q := q) fun h => (hq h).1] at ho
        refine nK ?_
        refine s_reg rfl ?_
        refine Run.pure (dd := some 12) rfl rfl (op_move rfl (Opd.tmp _ _ rfl)) ?_
        refine Run.pure (dd := some 13) rfl rfl (op_idx_fz _ rfl (Opd.tmp _ _ rfl) (Opd.tmp _ _ rfl) tF) ?_
        refine Run.pure (dd := some 14) rfl rfl (op_loadw_fz rfl (Opd.tmp _ _ rfl) rfl) ?_
        refine Run.eff (dd := some 4) rfl rfl (op_alloc rfl rfl rfl rfl) ?_
        refine Run.pure (dd := some 3) rfl rfl (op_assign rfl (Opd.tmp _ _ rfl)) ?_
        refine Run.eff (dd := none) rfl rfl (op_store_flat rfl (Opd.tmp _ _ rfl) (Opd.tmp _ _ rfl) tC rfl rfl (by first | rfl | assumption) tS) ?_
        refine Run.nil (FinR.mk ?_)
        refine nK ?_
        refine s_reg rfl ?_
        refine Run.pure (dd := some 16) rfl rfl (op_fld_ptr (by decide) rfl (Opd.tmp _ _ rfl)) ?_
        refine Run.load (dd := some 17) rfl rfl (op_load1_flat rfl (Opd.tmp _ _ rfl) tH rfl) ?_
        refine Run.pure (dd := some 18) rfl rfl (op_leq rfl (Opd.tmp _ _ rfl) (Opd.const _)) ?_
        refine Run.pure (dd := some 19) rfl rfl (op_move rfl (Opd.tmp _ _ rfl)) ?_
        refine Run.pureG (dd := some 20) rfl rfl rfl tG (op_fld_ptr (by decide) rfl (Opd.tmp _ _ rfl)) ?_
        refine Run.loadG (dd := some 21) rfl rfl rfl tG (op_load1_flat rfl (Opd.topt _ _ _ rfl tO) tH rfl) ?_
        refine Run.pureG (dd := some 22) rfl rfl rfl tG (op_gtr rfl (Opd.topt _ _ _ rfl tO) (Opd.const _)) ?_
        refine Run.pure (dd := some 23) rfl rfl (op_pick_or rfl (Opd.tmp _ _ rfl) (Opd.topt _ _ _ rfl tO)) ?_
        refine Run.pure (dd := some 15) rfl rfl (op_assign rfl (Opd.tmp _ _ rfl)) ?_
        refine Run.nil (FinR.mk ?_)
        refine nK ?_
        refine n_cond _ rfl (fun hb => ?_) (fun hb => ?_)
        · rw [if_pos hb] at ho
          rw [← ho]
          refine nK ?_
          refine s_reg rfl ?_
          refine Run.pure (dd := some 2) rfl rfl (op_assign rfl (Opd.const _)) ?_
          refine Run.nil (FinR.mk ?_)
          refine nK ?_
          (first | exact s_o1 hC rfl tV | exact s_o2 hC rfl tV tV | exact s_o3 hC rfl tV tV tV | exact s_o4 hC rfl tV tV tV tV | exact s_out0 hC rfl | exact s_outO hC rfl rfl rfl)
        · rw [if_neg (by rw [hb]; decide)] at ho
          refine nK ?_
          refine s_draw mixed ?_
          refine Run.pure (dd := some 25) rfl rfl (op_move rfl (Opd.tmp _ _ rfl)) ?_
          refine Run.pure (dd := some 26) rfl rfl (op_gtr rfl (Opd.tmp _ _ rfl) (Opd.const _)) ?_
          refine Run.pure (dd := some 27) rfl rfl (op_move rfl (Opd.tmp _ _ rfl)) ?_
          refine Run.pureG (dd := some 28) rfl rfl rfl tG (op_fld_ptr (by decide) rfl (Opd.tmp _ _ rfl)) ?_
          refine Run.loadG (dd := some 29) rfl rfl rfl tG (op_load1_flat rfl (Opd.topt _ _ _ rfl tO) tH rfl) ?_
          refine Run.pureG (dd := some 30) rfl rfl rfl tG (op_move rfl (Opd.tmp _ _ rfl)) ?_
          refine Run.pureG (dd := some 31) rfl rfl rfl tG (op_move rfl (Opd.tmp _ _ rfl)) ?_
          refine Run.pureG (dd := some 32) rfl rfl rfl tG (op_sub rfl (Opd.topt _ _ _ rfl tO) (Opd.const _) tI) ?_
          refine Run.pureG (dd := some 33) rfl rfl rfl tG (op_idx_fz (i - 1) rfl (Opd.topt _ _ _ rfl tO) (Opd.topt _ _ _ rfl tO) (by intro hg; have h0 : 0 < i := (by simp at hg; omega); exact ⟨by omega, (hq h0).2⟩)) ?_
          refine Run.pureG (dd := some 34) rfl rfl rfl tG (op_fld_fz (by decide) rfl (Opd.topt _ _ _ rfl tO) tR) ?_
          refine Run.pureG (dd := some 35) rfl rfl rfl tG (op_load1_fz rfl (Opd.topt _ _ _ rfl tO) rfl) ?_
          refine Run.pureG (dd := some 36) rfl rfl rfl tG (op_leq rfl (Opd.topt _ _ _ rfl tO) (Opd.topt _ _ _ rfl tO)) ?_
          refine Run.pure (dd := some 37) rfl rfl (op_pick_and rfl (Opd.tmp _ _ rfl) (Opd.topt _ _ _ rfl tO)) ?_
          refine Run.pure (dd := some 24) rfl rfl (op_assign rfl (Opd.tmp _ _ rfl)) ?_
          refine Run.nil (FinD.mk (by kernel_rfl) ?_)
          refine nK ?_
          refine n_cond _ rfl (fun hb => ?_) (fun hb => ?_)
          · rw [if_pos hb] at ho
            rw [← ho]
            refine nK ?_
            refine s_reg rfl ?_
            refine Run.pure (dd := some 2) rfl rfl (op_assign rfl (Opd.const _)) ?_
            refine Run.nil (FinR.mk ?_)
            refine nK ?_
            (first | exact s_o1 hC rfl tV | exact s_o2 hC rfl tV tV | exact s_o3 hC rfl tV tV tV | exact s_o4 hC rfl tV tV tV tV | exact s_out0 hC rfl | exact s_outO hC rfl rfl rfl)
          · rw [if_neg (by rw [hb]; decide)] at ho
            refine nK ?_
            refine s_reg rfl ?_
            refine Run.pure (dd := some 39) rfl rfl (op_fld_ptr (by decide) rfl (Opd.tmp _ _ rfl)) ?_
            refine Run.load (dd := some 40) rfl rfl (op_load1_flat rfl (Opd.tmp _ _ rfl) tH rfl) ?_
            refine Run.pure (dd := some 41) rfl rfl (op_len_fz rfl (by first | exact Opd.tmp _ _ rfl | exact Opd.nil _ _ (Opd.tmp _ _ rfl)) (by first | exact List.length_map _ | rfl)) ?_
            refine Run.pure (dd := some 42) rfl rfl (op_gtr rfl (Opd.tmp _ _ rfl) (Opd.const _)) ?_
            refine Run.pure (dd := some 38) rfl rfl (op_assign rfl (Opd.tmp _ _ rfl)) ?_
            refine Run.nil (FinR.mk ?_)
            refine nK ?_
            refine n_cond _ rfl (fun hb => ?_) (fun hb => ?_)
            · rw [if_pos (by simp at hb; omega)] at ho
              rw [← ho]
              refine nK ?_
              refine s_reg rfl ?_
              refine Run.pure (dd := some 2) rfl rfl (op_assign rfl (Opd.const _)) ?_
              refine Run.nil (FinR.mk ?_)
              refine nK ?_
              (first | exact s_o1 hC rfl tV | exact s_o2 hC rfl tV tV | exact s_o3 hC rfl tV tV tV | exact s_o4 hC rfl tV tV tV tV | exact s_out0 hC rfl | exact s_outO hC rfl rfl rfl)
            · rw [if_neg (by simp at hb; omega)] at ho
              refine nK ?_
              refine s_reg rfl ?_
              refine Run.pure (dd := some 43) rfl rfl (op_add rfl (Opd.tmp _ _ rfl) (Opd.const _) tI) ?_
              refine Run.pure (dd := some 10) rfl rfl (op_move rfl (Opd.tmp _ _ rfl)) ?_
              refine Run.nil (FinR.mk ?_)
              refine nK ?_
              refine Next.weak [] [] (by rfl) (keeps0 hC _) (by repeat (first | exact trivial | refine ⟨⟨_, rfl, .inl ⟨rfl, rfl⟩⟩, ?_⟩)) (by repeat (first | exact trivial | refine ⟨ent_same rfl rfl rfl tL, ?_⟩ | refine ⟨ent_same rfl rfl (rfEq rfl tU) tL, ?_⟩ | refine ⟨ent_same rfl rfl (flEq rfl (by first | (simp; done) | (simp; omega) | (simp [encP, encAt, encSg, encTl, encW, encN, encY]; done) | simp [maxC, minC])) trivial, ?_⟩)) (fun _ h => by simp at h) (hK1 ho)
      · have hie : i = l.length := by simp at hb; omega
        rw [hie, List.drop_length] at ho
        rw [← ho]
        simp only [unkGo]
        refine nK ?_
        refine s_reg rfl ?_
        refine Run.pure (dd := some 2) rfl rfl (op_assign rfl (Opd.const _)) ?_
        refine Run.nil (FinR.mk ?_)
        refine nK ?_
        (first | exact s_o1 hC rfl tV | exact s_o2 hC rfl tV tV | exact s_o3 hC rfl tV tV tV | exact s_o4 hC rfl tV tV tV tV | exact s_out0 hC rfl | exact s_outO hC rfl rfl rfl)
theorem among_c (k : Int) (l : List Int) (hn : l.length ≤ 1000) : Pure Try.prog 99 [If .i64 k, VI l] (Bf (amongB k l)) := by
  refine Meets.intro Try.func99 rfl (Nat.le_of_ble_eq_true rfl) fun C hC => ?_
  simp only [List.map, argEnv, Nat.reduceAdd]
  refine nK ?_
  refine s_reg rfl ?_
  refine Run.pure (dd := some 4) rfl rfl (op_assign rfl (Opd.const _)) ?_
  refine Run.nil (FinR.mk ?_)
  refine nK ?_
  refine s_reg rfl ?_
  refine Run.pure (dd := some 7) rfl rfl (op_move rfl (Opd.tmp _ _ rfl)) ?_
  refine Run.pure (dd := some 8) rfl rfl (op_len_fz rfl (by first | exact Opd.tmp _ _ rfl | exact Opd.nil _ _ (Opd.tmp _ _ rfl)) (by first | exact List.length_map _ | rfl)) ?_
  refine Run.pure (dd := some 9) rfl rfl (op_move rfl (Opd.const _)) ?_
  refine Run.nil (FinR.mk ?_)
  refine nK ?_
  refine n_loop (ι := Nat) (fun i => ([(0, IV .i64 k), (7, .fz (VI l)), (8, IV .i64 l.length), (9, IV .i64 i)], [], 0)) (fun i => i ≤ l.length ∧ amongB k (l.drop i) = amongB k l) (fun i => l.length - i) 0 ⟨Nat.zero_le _, rfl⟩ ?_ ?_
  · refine Next.weak [] [] (by rfl) (keeps0 hC _) (by repeat (first | exact trivial | refine ⟨⟨_, rfl, .inl ⟨rfl, rfl⟩⟩, ?_⟩)) (by repeat (first | exact trivial | refine ⟨ent_same rfl rfl rfl tL, ?_⟩ | refine ⟨ent_same rfl rfl (rfEq rfl tU) tL, ?_⟩ | refine ⟨ent_same rfl rfl (flEq rfl (by first | (simp; done) | (simp; omega) | (simp [encP, encAt, encSg, encTl, encW, encN, encY]; done) | simp [maxC, minC])) trivial, ?_⟩)) (fun _ h => by simp at h) rel_intro
  · intro i ⟨hi, ho⟩ K hK
    refine nK ?_
    refine s_reg rfl ?_
    refine Run.pure (dd := some 10) rfl rfl (op_lss rfl (Opd.tmp _ _ rfl) (Opd.tmp _ _ rfl)) ?_
    refine Run.nil (FinR.mk ?_)
    refine nK ?_
    refine n_cond _ rfl (fun hb => ?_) (fun hb => ?_)
    · have hlt : i < l.length := by simp at hb; omega
      have hr1 := row_at' encN l i hlt
      rw [List.drop_eq_getElem_cons hlt] at ho
      have hs : ∀ x (t : List Int), amongB k (x :: t) = (decide (x = k) || amongB k t) := fun _ _ => rfl
      rw [hs] at ho
      have hK1 := fun h => hK (i + 1) ⟨by omega, h⟩ (by omega)
      generalize l[i] = x at *
      refine nK ?_
      refine s_reg rfl ?_
      refine Run.pure (dd := some 11) rfl rfl (op_idx_fz _ rfl (Opd.tmp _ _ rfl) (Opd.tmp _ _ rfl) tF) ?_
      refine Run.pure (dd := some 12) rfl rfl (op_load1_fz rfl (Opd.tmp _ _ rfl) rfl) ?_
      refine Run.pure (dd := some 6) rfl rfl (op_assign rfl (Opd.tmp _ _ rfl)) ?_
      refine Run.nil (FinR.mk ?_)
      refine nK ?_
      refine s_reg rfl ?_
      refine Run.pure (dd := some 13) rfl rfl (op_move rfl (Opd.tmp _ _ rfl)) ?_
      refine Run.pure (dd := some 14) rfl rfl (op_move rfl (Opd.tmp _ _ rfl)) ?_
      refine Run.pure (dd := some 15) rfl rfl (op_eql rfl (Opd.tmp _ _ rfl) (Opd.tmp _ _ rfl)) ?_
      refine Run.nil (FinR.mk ?_)
      refine nK ?_
      refine n_cond _ rfl (fun hb => ?_) (fun hb => ?_)
      · rw [hb, Bool.true_or] at ho
        rw [← ho]
        refine nK ?_
        refine s_reg rfl ?_
        refine Run.pure (dd := some 4) rfl rfl (op_assign rfl (Opd.const _)) ?_
        refine Run.nil (FinR.mk ?_)
        refine nK ?_
        (first | exact s_o1 hC rfl tV | exact s_o2 hC rfl tV tV | exact s_o3 hC rfl tV tV tV | exact s_o4 hC rfl tV tV tV tV | exact s_out0 hC rfl | exact s_outO hC rfl rfl rfl)
      · rw [hb, Bool.false_or] at ho
        refine nK ?_
        refine s_reg rfl ?_
        refine Run.pure (dd := some 16) rfl rfl (op_add rfl (Opd.tmp _ _ rfl) (Opd.const _) tI) ?_
        refine Run.pure (dd := some 9) rfl rfl (op_move rfl (Opd.tmp _ _ rfl)) ?_
        refine Run.nil (FinR.mk ?_)
        refine nK ?_
        refine Next.weak [] [] (by rfl) (keeps0 hC _) (by repeat (first | exact trivial | refine ⟨⟨_, rfl, .inl ⟨rfl, rfl⟩⟩, ?_⟩)) (by repeat (first | exact trivial | refine ⟨ent_same rfl rfl rfl tL, ?_⟩ | refine ⟨ent_same rfl rfl (rfEq rfl tU) tL, ?_⟩ | refine ⟨ent_same rfl rfl (flEq rfl (by first | (simp; done) | (simp; omega) | (simp [encP, encAt, encSg, encTl, encW, encN, encY]; done) | simp [maxC, minC])) trivial, ?_⟩)) (fun _ h => by simp at h) (hK1 ho)
    · have hie : i = l.length := by simp at hb; omega
      rw [hie, List.drop_length] at ho
      rw [← ho]
      refine nK ?_
      refine s_reg rfl ?_
      refine Run.pure (dd := some 4) rfl rfl (op_assign rfl (Opd.const _)) ?_
      refine Run.nil (FinR.mk ?_)
      refine nK ?_
      (first | exact s_o1 hC rfl tV | exact s_o2 hC rfl tV tV | exact s_o3 hC rfl tV tV tV | exact s_o4 hC rfl tV tV tV tV | exact s_out0 hC rfl | exact s_outO hC rfl rfl rfl)
theorem confed_c (k : Int) : Pure Try.prog 98 [If .i64 k] (Bf (confB k)) := by
  have ka := among_c k [3, 4] (by simp)
  refine Meets.intro Try.func98 rfl (Nat.le_of_ble_eq_true rfl) fun C hC => ?_
  simp only [List.map, argEnv, Nat.reduceAdd]
  refine nK ?_
  refine s_reg rfl ?_
  refine Run.pure (dd := some 2) rfl rfl (op_assign rfl (Opd.const _)) ?_
  refine Run.nil (FinR.mk ?_)
  refine nK ?_
  refine s_reg rfl ?_
  refine Run.pure (dd := some 3) rfl rfl (op_move rfl (Opd.tmp _ _ rfl)) ?_
  refine Run.pure (dd := some 4) rfl rfl (op_buildSlice_fz rfl (RowsF.cons _ _ _ _ _ _ (Opd.const _) tC (by rfl) (RowsF.cons _ _ _ _ _ _ (Opd.const _) tC (by rfl) (RowsF.nil _))) rfl rfl) ?_
  refine Run.pure (dd := some 5) rfl rfl (op_call_pure (fun _ => ka) rfl (Opd.func _) (Opds.cons _ _ _ _ (Opd.tmp _ _ rfl) (Opds.cons _ _ _ _ (Opd.tmp _ _ rfl) Opds.nil))) ?_
  refine Run.pure (dd := some 2) rfl rfl (op_assign rfl (Opd.tmp _ _ rfl)) ?_
  refine Run.nil (FinR.mk ?_)
  refine nK ?_
  (first | exact s_o1 hC rfl tV | exact s_o2 hC rfl tV tV | exact s_o3 hC rfl tV tV tV | exact s_o4 hC rfl tV tV tV tV | exact s_out0 hC rfl | exact s_outO hC rfl rfl rfl)
end Go.Proofs.Ytfkcbglnadjnnaa
