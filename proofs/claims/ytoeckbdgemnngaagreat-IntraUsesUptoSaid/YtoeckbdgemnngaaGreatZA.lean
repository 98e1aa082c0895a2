/- A part of the proof: RT1, RT2, RT3, RT4, RT5, RT6, RT7, RT8, RT9, RT10. -/
import Derived.Orders
import Derived.Below
import Derived.Laws.AppendOwn
import Derived.Laws.World
import Derived.Laws.Sem
import Derived.Tactics
import Derived.OrdersIn
import Derived.TacticsIn
import Derived.Laws.Cells
import Derived.Laws.Entries
import Derived.Laws.CopyRow
import Derived.ChangeKeysEq
set_option linter.all false
/- The engine, part 1: abstract values, what it means that a value reads as0 one, the memory's relation, and that readings last. -/
namespace Go
/-- the fence that lets all in, in a round of the loop r (or in none) -/
def RT.FM (r : Option Nat) : Fence := { fn := fun _ => True, depth := none, alive := false, round := r }
/-- the walk of code in a mode -/
def Code.wpM (r : Option Nat) (P : Program) (c : Code) (Q : Exit → Act → World → Prop) (a : Act) (w : World) : Prop := c.wpIn (RT.FM r) 0 P Q a w
/-- an operation's meaning, in whatever mode -/
def Oper.wpE (P : Program) (o : Oper) (a : Act) (w : World) (K : Act → World → Prop) (Q : Exit → Act → World → Prop) : Prop := ∀ r, o.wpIn (RT.FM r) 0 P a w K Q
theorem Oper.not_defer {P : Program} {o : Oper} {a : Act} {w w' : World} {x : Next} (h : (execOp a.eval o).run P w = .ok x w') (hx : ∀ d, x ≠ .defer d) : ∀ c, o.op ≠ .defer c := fun c hc => by
  simp only [execOp, hc, Sem.run_bind] at h
  cases hr : (resolve a.eval c o.type).run P w with
  | ok d w1 => rw [hr] at h; simp [Result.andThen] at h; exact hx _ h.1.symm
  | halt y w1 => rw [hr] at h; simp [Result.andThen] at h
theorem Oper.wpE_of {P : Program} {o : Oper} {a : Act} {w w' : World} {x : Next} {K : Act → World → Prop} {Q : Exit → Act → World → Prop} (h : (execOp a.eval o).run P w = .ok x w') (hx : ∀ d, x ≠ .defer d) (hk : ∀ r, o.uponIn (RT.FM r) 0 P a K Q (.ok x w')) : o.wpE P a w K Q := fun r => by
  refine ⟨fun _ _ => trivial, ?_⟩
  rw [Oper.semAt_eq _ _ _ (Oper.not_defer h hx), h]
  exact hk r
theorem callsIn_FM {r : Option Nat} {n : Nat} {P : Program} {f : FuncId} {args : Array Value} {w : World} {R : Ending → World → Prop} : CallsIn (RT.FM r) n P f args w R ↔ Calls P f args w R := callsIn_wide (n := n)
end Go
namespace Go.RT

/-- frozen data -/
inductive FV where
  | lit (v : Value)
  | agg (cs : List FV)
  | vals (sz : Nat) (rows : List (List FV))
  | cellp (fs : List FV)
  | tup (vs : List FV)
  | clo (f : FuncId) (caps : List FV)
  | mapv (ks vs : List FV)

inductive FRep (w : World) (S : Nat → Prop) : Value → FV → Prop where
  | lit (v : Value) : FRep w S v (.lit v)
  | agg (cs : Array Value) (fs : List FV) (hl : cs.size = fs.length) (h : ∀ (i : Nat) (c : Value) (f : FV), cs[i]? = some c → fs[i]? = some f → FRep w S c f) (h1 : ∀ (i : Nat) (c : Value), cs[i]? = some c → c.oneCell' = true) : FRep w S (.agg cs) (.agg fs)
  | tup (cs : Array Value) (fs : List FV) (hl : cs.size = fs.length) (h : ∀ (i : Nat) (c : Value) (f : FV), cs[i]? = some c → fs[i]? = some f → FRep w S c f) : FRep w S (.tuple cs) (.tup fs)
  | clo (g : FuncId) (cs : Array Value) (fs : List FV) (hl : cs.size = fs.length) (h : ∀ (i : Nat) (c : Value) (f : FV), cs[i]? = some c → fs[i]? = some f → FRep w S c f) : FRep w S (.func (.func g) #[] cs) (.clo g fs)
  | nil (a : Option Addr) (cap sz : Nat) : FRep w S (.slice a 0 cap) (.vals sz [])
  | vals (b off cap sz : Nat) (rows : List (List FV)) (U : Nat → Nat → Value) (hS : S b) (hcap : rows.length ≤ cap) (hsz : ∀ r ∈ rows, r.length = sz)
      (hU : ∀ (i j : Nat) (r : List FV) (f : FV), rows[i]? = some r → r[j]? = some f → w.cell? ⟨b, off + (i * sz + j), none⟩ = some (U i j) ∧ (U i j).oneCell' = true)
      (hR : ∀ (i j : Nat) (r : List FV) (f : FV), rows[i]? = some r → r[j]? = some f → FRep w S (U i j) f) : FRep w S (.slice (some ⟨b, off, none⟩) rows.length cap) (.vals sz rows)
  | cellp (b off : Nat) (fs : List FV) (U : Nat → Value) (hS : S b)
      (hU : ∀ (j : Nat) (f : FV), fs[j]? = some f → w.cell? ⟨b, off + j, none⟩ = some (U j) ∧ (U j).oneCell' = true)
      (hR : ∀ (j : Nat) (f : FV), fs[j]? = some f → FRep w S (U j) f) : FRep w S (.pointer (some ⟨b, off, none⟩)) (.cellp fs)
  | mapn : FRep w S (.map none) (.mapv [] [])
  | mapv (b : Nat) (ks vs : List FV) (arr : Array MapEntry) (clock : Nat) (hS : S b) (hb : w.heap[b]? = some (.map arr clock)) (hk : arr.size = ks.length) (hv : arr.size = vs.length)
      (hK : ∀ (i : Nat) (e : MapEntry) (f : FV), arr[i]? = some e → ks[i]? = some f → FRep w S e.key f) (hV : ∀ (i : Nat) (e : MapEntry) (f : FV), arr[i]? = some e → vs[i]? = some f → FRep w S e.val f) : FRep w S (.map (some b)) (.mapv ks vs)

theorem FRep.mono {w w' : World} {S S' : Nat → Prop} (hS : ∀ b, S b → S' b) (hw : ∀ b, S b → w'.heap[b]? = w.heap[b]?) {v : Value} {f : FV} (h : FRep w S v f) : FRep w' S' v f := by
  induction h with
  | lit v => exact .lit v
  | agg cs fs hl _ h1 ih => exact .agg cs fs hl ih h1
  | tup cs fs hl _ ih => exact .tup cs fs hl ih
  | clo g cs fs hl _ ih => exact .clo g cs fs hl ih
  | nil a cap sz => exact .nil a cap sz
  | vals b off cap sz rows U hb hcap hsz hU _ ih =>
    refine .vals b off cap sz rows U (hS b hb) hcap hsz (fun i j r f h1 h2 => ?_) ih
    rw [World.cell?_of_block (w := w) (hw b hb)]; exact hU i j r f h1 h2
  | cellp b off fs U hb hU _ ih =>
    refine .cellp b off fs U (hS b hb) (fun j f h1 => ?_) ih
    rw [World.cell?_of_block (w := w) (hw b hb)]; exact hU j f h1
  | mapn => exact .mapn
  | mapv b ks vs arr clock hb hm hk hv _ _ ih1 ih2 => exact .mapv b ks vs arr clock (hS b hb) ((hw b hb).trans hm) hk hv ih1 ih2

/-- abstract values: frozen ones, and those that name an owned object by its number -/
inductive PV where
  | fz (f : FV)
  | sl (id sz lo len : Nat)
  | ptr (id sz row col : Nat)
  | agg (cs : List PV)
  | tup (vs : List PV)
  | clo (f : FuncId) (first caps : List PV)
  | mp (id : Nat)
  | opt (g : Bool) (p : PV)
  | any
  | ab (c : Bool)
  | wc (cap : Nat) (p : PV)
  | own (sz : Nat) (rows : List (List FV))
  | yl (id : Nat) (tm : Array Value) (ps : List PV)

def roomIs (w : World) (b n : Nat) : Prop := ∃ c e fr, w.heap[b]? = some (.cells c e fr) ∧ c.size = n

abbrev Ids := Nat → Option (Option Nat)

inductive Rep (w : World) (S : Nat → Prop) (m : Ids) : Value → PV → Prop where
  | fz (v : Value) (f : FV) (h : FRep w S v f) : Rep w S m v (.fz f)
  | sl0 (id sz : Nat) (h : m id = some none) : Rep w S m (.slice none 0 0) (.sl id sz 0 0)
  | sl (id sz lo len b cap : Nat) (h : m id = some (some b)) (hr : roomIs w b ((lo + cap) * sz)) (hc : len ≤ cap) (hm : lo + cap ≤ maxLen) : Rep w S m (.slice (some ⟨b, lo * sz, none⟩) len cap) (.sl id sz lo len)
  | ptr (id sz row col b : Nat) (h : m id = some (some b)) : Rep w S m (.pointer (some ⟨b, row * sz + col, none⟩)) (.ptr id sz row col)
  | agg (cs : Array Value) (fs : List PV) (hl : cs.size = fs.length) (h : ∀ (i : Nat) (c : Value) (f : PV), cs[i]? = some c → fs[i]? = some f → Rep w S m c f) (h1 : ∀ (i : Nat) (c : Value), cs[i]? = some c → c.oneCell' = true) : Rep w S m (.agg cs) (.agg fs)
  | tup (cs : Array Value) (fs : List PV) (hl : cs.size = fs.length) (h : ∀ (i : Nat) (c : Value) (f : PV), cs[i]? = some c → fs[i]? = some f → Rep w S m c f) : Rep w S m (.tuple cs) (.tup fs)
  | clo (f : FuncId) (as0 cs : Array Value) (ps qs : List PV) (hla : as0.size = ps.length) (hlc : cs.size = qs.length)
      (ha : ∀ (i : Nat) (c : Value) (p : PV), as0[i]? = some c → ps[i]? = some p → Rep w S m c p) (hc : ∀ (i : Nat) (c : Value) (p : PV), cs[i]? = some c → qs[i]? = some p → Rep w S m c p) :
      Rep w S m (.func (.func f) as0 cs) (.clo f ps qs)
  | mp (id b : Nat) (h : m id = some (some b)) : Rep w S m (.map (some b)) (.mp id)
  | opt (v : Value) (g : Bool) (p : PV) (h : g = true → Rep w S m v p) (hu : g = false → v = undef) : Rep w S m v (.opt g p)
  | any (v : Value) : Rep w S m v .any
  | ab (b c : Bool) (h : b = true → c = true) : Rep w S m (.bool b) (.ab c)
  | wc (ad : Option Addr) (len cap : Nat) (p : PV) (h : Rep w S m (.slice ad len cap) p) : Rep w S m (.slice ad len cap) (.wc cap p)
  | own (v : Value) (sz : Nat) (rows : List (List FV)) : Rep w S m v (.own sz rows)
  | yl (l id : Nat) (tm : Array Value) (ps : List PV) (h : m id = some (some l)) (hl : tm.size = ps.length) (hv : ∀ (i : Nat) (c : Value) (p : PV), tm[i]? = some c → ps[i]? = some p → Rep w S m c p) : Rep w S m (.func (.yield l) #[] #[]) (.yl id tm ps)

/-- what was known stays known -/
structure Le (S : Nat → Prop) (m : Ids) (w : World) (S' : Nat → Prop) (m' : Ids) (w' : World) : Prop where
  st : ∀ b, S b → S' b
  same : ∀ b, S b → w'.heap[b]? = w.heap[b]?
  ids : ∀ i x, m i = some x → m' i = some x
  room : ∀ b n, roomIs w b n → roomIs w' b n

theorem Le.refl (S : Nat → Prop) (m : Ids) (w : World) : Le S m w S m w := ⟨fun _ h => h, fun _ _ => rfl, fun _ _ h => h, fun _ _ h => h⟩
theorem Le.trans {S S' S'' : Nat → Prop} {m m' m'' : Ids} {w w' w'' : World} (h : Le S m w S' m' w') (k : Le S' m' w' S'' m'' w'') : Le S m w S'' m'' w'' :=
  ⟨fun b hb => k.st b (h.st b hb), fun b hb => (k.same b (h.st b hb)).trans (h.same b hb), fun i x hx => k.ids i x (h.ids i x hx), fun b n hn => k.room b n (h.room b n hn)⟩

theorem Rep.mono {w w' : World} {S S' : Nat → Prop} {m m' : Ids} (hle : Le S m w S' m' w') {v : Value} {p : PV} (h : Rep w S m v p) : Rep w' S' m' v p := by
  induction h with
  | fz v f h => exact .fz v f (h.mono hle.st hle.same)
  | sl0 id sz h => exact .sl0 id sz (hle.ids _ _ h)
  | sl id sz lo len b cap h hr hc hm => exact .sl id sz lo len b cap (hle.ids _ _ h) (hle.room _ _ hr) hc hm
  | ptr id sz row col b h => exact .ptr id sz row col b (hle.ids _ _ h)
  | agg cs fs hl _ h1 ih => exact .agg cs fs hl ih h1
  | tup cs fs hl _ ih => exact .tup cs fs hl ih
  | clo f as0 cs ps qs h1 h2 _ _ ih1 ih2 => exact .clo f as0 cs ps qs h1 h2 ih1 ih2
  | mp id b h => exact .mp id b (hle.ids _ _ h)
  | opt v g p _ hu ih => exact .opt v g p ih hu
  | any v => exact .any v
  | ab b c h => exact .ab b c h
  | wc ad len cap p _ ih => exact .wc ad len cap p ih
  | own v sz rows => exact .own v sz rows
  | yl l id tm ps h hl _ ih => exact .yl l id tm ps (hle.ids _ _ h) hl ih

/-- objects that the function owns -/
inductive Ob where
  | flat (sz : Nat) (rows : List (List FV))
  | refs (sz : Nat) (rows : List (List PV))
  | map (ks vs : List FV)
  | raw (x : Obj)
  | mapc (ks vs : List FV) (arr : Array MapEntry) (clock b : Nat)

abbrev Env := List (Nat × PV)
abbrev Hp := List (Nat × Option Ob)

def look : Env → Nat → Option PV
  | [], _ => none
  | (s, p) :: r, t => bif Nat.beq s t then some p else look r t
def hlook : Hp → Nat → Option Ob
  | [], _ => none
  | (s, p) :: r, t => bif Nat.beq s t then p else hlook r t

@[simp] theorem look_nil (t : Nat) : look [] t = none := rfl
theorem look_cons (s : Nat) (p : PV) (r : Env) (t : Nat) : look ((s, p) :: r) t = if s = t then some p else look r t := by
  simp only [look]; by_cases h : s = t
  · subst h; simp [Nat.beq_refl]
  · have : Nat.beq s t = false := by
      rw [Bool.eq_false_iff]; intro hb; exact h (Nat.eq_of_beq_eq_true hb)
    simp [this, h]
theorem hlook_cons (s : Nat) (p : Option Ob) (r : Hp) (t : Nat) : hlook ((s, p) :: r) t = if s = t then p else hlook r t := by
  simp only [hlook]; by_cases h : s = t
  · subst h; simp [Nat.beq_refl]
  · have : Nat.beq s t = false := by
      rw [Bool.eq_false_iff]; intro hb; exact h (Nat.eq_of_beq_eq_true hb)
    simp [this, h]

def RowsRep {α : Type} (R : Value → α → Prop) (c : Array Value) (sz : Nat) (rows : List (List α)) : Prop :=
  rows.length * sz ≤ c.size ∧ (∀ r ∈ rows, r.length = sz) ∧
  ∀ (i j : Nat) (r : List α) (p : α), rows[i]? = some r → r[j]? = some p → ∃ u, c[i * sz + j]? = some u ∧ u.oneCell' = true ∧ R u p

/-- the entries' stamps: they differ, and are below the clock -/
def BornOk (arr : Array MapEntry) (clock : Nat) : Prop :=
  (∀ (i j : Nat) (e e' : MapEntry), arr[i]? = some e → arr[j]? = some e' → e.born = e'.born → i = j) ∧ ∀ (i : Nat) (e : MapEntry), arr[i]? = some e → e.born < clock
def ORep (w : World) (S : Nat → Prop) (m : Ids) (id : Nat) : Ob → Prop
  | .flat sz rows => (m id = some none ∧ rows = []) ∨ ∃ b c e, m id = some (some b) ∧ w.heap[b]? = some (.cells c e (0, 0)) ∧ RowsRep (FRep w S) c sz rows
  | .refs sz rows => (m id = some none ∧ rows = []) ∨ ∃ b c e, m id = some (some b) ∧ w.heap[b]? = some (.cells c e (0, 0)) ∧ RowsRep (Rep w S m) c sz rows
  | .map ks vs => ∃ b arr clock, m id = some (some b) ∧ w.heap[b]? = some (.map arr clock) ∧ arr.size = ks.length ∧ arr.size = vs.length ∧
      (∀ (i : Nat) (e : MapEntry) (f : FV), arr[i]? = some e → ks[i]? = some f → FRep w S e.key f) ∧ (∀ (i : Nat) (e : MapEntry) (f : FV), arr[i]? = some e → vs[i]? = some f → FRep w S e.val f) ∧ BornOk arr clock
  | .raw x => ∃ b, m id = some (some b) ∧ w.heap[b]? = some x
  | .mapc ks vs arr clock b => m id = some (some b) ∧ w.heap[b]? = some (.map arr clock) ∧ arr.size = ks.length ∧ arr.size = vs.length ∧
      (∀ (i : Nat) (e : MapEntry) (f : FV), arr[i]? = some e → ks[i]? = some f → FRep w S e.key f) ∧ (∀ (i : Nat) (e : MapEntry) (f : FV), arr[i]? = some e → vs[i]? = some f → FRep w S e.val f) ∧ BornOk arr clock

theorem RowsRep.mono {α : Type} {R R' : Value → α → Prop} (h : ∀ v p, R v p → R' v p) {c : Array Value} {sz : Nat} {rows : List (List α)} (hr : RowsRep R c sz rows) : RowsRep R' c sz rows :=
  ⟨hr.1, hr.2.1, fun i j r p h1 h2 => let ⟨u, hu, ho, hp⟩ := hr.2.2 i j r p h1 h2; ⟨u, hu, ho, h _ _ hp⟩⟩

theorem ORep.mono {w w' : World} {S S' : Nat → Prop} {m m' : Ids} (hle : Le S m w S' m' w') {id : Nat} {o : Ob} (h : ORep w S m id o) (hb : ∀ b, m id = some (some b) → w'.heap[b]? = w.heap[b]?) : ORep w' S' m' id o := by
  cases o with
  | flat sz rows =>
    rcases h with ⟨h1, h2⟩ | ⟨b, c, e, h1, h2, h3⟩
    · exact .inl ⟨hle.ids _ _ h1, h2⟩
    · exact .inr ⟨b, c, e, hle.ids _ _ h1, (hb b h1).trans h2, h3.mono fun v p h => h.mono hle.st hle.same⟩
  | refs sz rows =>
    rcases h with ⟨h1, h2⟩ | ⟨b, c, e, h1, h2, h3⟩
    · exact .inl ⟨hle.ids _ _ h1, h2⟩
    · exact .inr ⟨b, c, e, hle.ids _ _ h1, (hb b h1).trans h2, h3.mono fun v p h => h.mono hle⟩
  | map ks vs =>
    obtain ⟨b, arr, clock, h1, h2, h3, h4, h5, h6, h7⟩ := h
    exact ⟨b, arr, clock, hle.ids _ _ h1, (hb b h1).trans h2, h3, h4, fun i e f q1 q2 => (h5 i e f q1 q2).mono hle.st hle.same, fun i e f q1 q2 => (h6 i e f q1 q2).mono hle.st hle.same, h7⟩
  | raw x =>
    obtain ⟨b, h1, h2⟩ := h
    exact ⟨b, hle.ids _ _ h1, (hb b h1).trans h2⟩
  | mapc ks vs arr clock b =>
    obtain ⟨h1, h2, h3, h4, h5, h6, h7⟩ := h
    exact ⟨hle.ids _ _ h1, (hb b h1).trans h2, h3, h4, fun i e f q1 q2 => (h5 i e f q1 q2).mono hle.st hle.same, fun i e f q1 q2 => (h6 i e f q1 q2).mono hle.st hle.same, h7⟩

theorem ORep.known {w : World} {S : Nat → Prop} {m : Ids} {id : Nat} {o : Ob} (h : ORep w S m id o) : ∃ x, m id = some x := by
  cases o with
  | flat sz rows => rcases h with ⟨h1, _⟩ | ⟨b, _, _, h1, _⟩ <;> exact ⟨_, h1⟩
  | refs sz rows => rcases h with ⟨h1, _⟩ | ⟨b, _, _, h1, _⟩ <;> exact ⟨_, h1⟩
  | map ks vs => obtain ⟨b, _, _, h1, _⟩ := h; exact ⟨_, h1⟩
  | raw x => obtain ⟨b, h1, _⟩ := h; exact ⟨_, h1⟩
  | mapc ks vs arr clock b => exact ⟨_, h.1⟩

/-- how the call began: the world, the blocks that were lent, what was frozen, the lent objects' numbers (below n0) -/
structure Cx where
  w0 : World
  own0 : Nat → Prop
  S0 : Nat → Prop
  m0 : Ids
  n0 : Nat
  df : List Deferred := []

/-- a cell of an owned object that alone leads to its slice's block -/
def OwnE (H : Hp) (id sz i j isz : Nat) (irows : List (List FV)) : Prop := ∃ rows r, hlook H id = some (.refs sz rows) ∧ rows[i]? = some r ∧ r[j]? = some (.own isz irows)
/-- what such a cell holds -/
def InAt (C : Cx) (S : Nat → Prop) (w : World) (isz : Nat) (irows : List (List FV)) (u : Value) (ob : Option Nat) : Prop :=
  (ob = none ∧ u = .slice none 0 0 ∧ irows = []) ∨ (∃ b' c' e' cap, ob = some b' ∧ u = .slice (some ⟨b', 0, none⟩) irows.length cap ∧ irows.length ≤ cap ∧ cap ≤ maxLen ∧ w.heap[b']? = some (.cells c' e' (0, 0)) ∧ c'.size = cap * isz ∧
    RowsRep (FRep w S) c' isz irows ∧ ¬ S b' ∧ b' < w.heap.size ∧ (C.w0.heap.size ≤ b' ∨ C.own0 b') ∧ isz < 1000000) ∨
  (∃ b' c' e' cap k junk, ob = some b' ∧ isz = 1000000 + k ∧ u = .slice (some ⟨b', junk.length * k, none⟩) irows.length cap ∧ irows.length ≤ cap ∧ junk.length + cap ≤ maxLen ∧ w.heap[b']? = some (.cells c' e' (0, 0)) ∧ c'.size = (junk.length + cap) * k ∧
    RowsRep (FRep w S) c' k (junk ++ irows) ∧ ¬ S b' ∧ b' < w.heap.size ∧ (C.w0.heap.size ≤ b' ∨ C.own0 b')) ∨
  (ob = none ∧ 1000000 ≤ isz ∧ irows = [] ∧ ∃ ad, u = .slice ad 0 0)
/-- the block that such a cell leads to -/
theorem InAt.blk {C : Cx} {S : Nat → Prop} {w : World} {isz : Nat} {irows : List (List FV)} {u : Value} {ob : Option Nat} {b : Nat} (h : InAt C S w isz irows u ob) (hb : ob = some b) : ¬ S b ∧ b < w.heap.size ∧ (C.w0.heap.size ≤ b ∨ C.own0 b) := by
  rcases h with ⟨h, _⟩ | ⟨b2, c', e', cap, r1, r2, r3, r4, r5, r6, r7, r8, r9, r10, _⟩ | ⟨b2, c', e', cap, k, junk, r1, r2, r3, r4, r5, r6, r7, r8, r9, r10, r11⟩ | ⟨h, _⟩
  · rw [hb] at h; cases h
  · rw [hb] at r1; cases r1; exact ⟨r8, r9, r10⟩
  · rw [hb] at r1; cases r1; exact ⟨r9, r10, r11⟩
  · rw [hb] at h; cases h
def OwnAt (C : Cx) (S : Nat → Prop) (m : Ids) (w : World) (id sz i j isz : Nat) (irows : List (List FV)) (ob : Option Nat) : Prop :=
  ∃ b c e u, m id = some (some b) ∧ w.heap[b]? = some (.cells c e (0, 0)) ∧ c[i * sz + j]? = some u ∧ InAt C S w isz irows u ob
structure Nst (C : Cx) (H : Hp) (S : Nat → Prop) (m : Ids) (w : World) (ib : Nat → Nat → Nat → Option Nat) : Prop where
  at_ : ∀ id sz i j isz irows, OwnE H id sz i j isz irows → OwnAt C S m w id sz i j isz irows (ib id i j)
  apart : ∀ id sz i j isz irows b', OwnE H id sz i j isz irows → ib id i j = some b' → ∀ id2 o2, hlook H id2 = some o2 → m id2 ≠ some (some b')
  inj : ∀ id sz i j isz irows id2 sz2 i2 j2 isz2 irows2 b', OwnE H id sz i j isz irows → OwnE H id2 sz2 i2 j2 isz2 irows2 → ib id i j = some b' → ib id2 i2 j2 = some b' → id = id2 ∧ i = i2 ∧ j = j2
theorem Nst.keep {C C' : Cx} {H H' : Hp} {S S' : Nat → Prop} {m m' : Ids} {w w' : World} {ib : Nat → Nat → Nat → Option Nat} (ρ : Nat → Nat) (h : Nst C H S m w ib)
    (hE : ∀ id sz i j isz irows, OwnE H' id sz i j isz irows → OwnE H (ρ id) sz i j isz irows ∧ m' id = m (ρ id))
    (hρ : ∀ id sz i j isz irows id2 sz2 i2 j2 isz2 irows2, OwnE H' id sz i j isz irows → OwnE H' id2 sz2 i2 j2 isz2 irows2 → ρ id = ρ id2 → id = id2)
    (hS : ∀ b, S b → S' b) (hsame : ∀ b, S b → w'.heap[b]? = w.heap[b]?)
    (hmain : ∀ id sz i j isz irows b c e u, OwnE H' id sz i j isz irows → m (ρ id) = some (some b) → w.heap[b]? = some (.cells c e (0, 0)) → c[i * sz + j]? = some u → ∃ c2 e2, w'.heap[b]? = some (.cells c2 e2 (0, 0)) ∧ c2[i * sz + j]? = some u)
    (hin : ∀ id sz i j isz irows b', OwnE H' id sz i j isz irows → ib (ρ id) i j = some b' → ¬ S b' → b' < w.heap.size → (C.w0.heap.size ≤ b' ∨ C.own0 b') → (∀ id2 o2, hlook H id2 = some o2 → m id2 ≠ some (some b')) →
      w'.heap[b']? = w.heap[b']? ∧ ¬ S' b' ∧ b' < w'.heap.size ∧ (C'.w0.heap.size ≤ b' ∨ C'.own0 b') ∧ ∀ id2 o2, hlook H' id2 = some o2 → m' id2 ≠ some (some b')) :
    Nst C' H' S' m' w' (fun id i j => ib (ρ id) i j) := by
  refine ⟨fun id sz i j isz irows hO => ?_, fun id sz i j isz irows b' hO hb => ?_, fun id sz i j isz irows id2 sz2 i2 j2 isz2 irows2 b' hO hO2 h1 h2 => ?_⟩
  · obtain ⟨h1, h2⟩ := hE _ _ _ _ _ _ hO
    obtain ⟨b, c, e, u, k1, k2, k3, k4⟩ := h.at_ _ _ _ _ _ _ h1
    obtain ⟨c2, e2, q1, q2⟩ := hmain _ _ _ _ _ _ b c e u hO k1 k2 k3
    refine ⟨b, c2, e2, u, h2.trans k1, q1, q2, ?_⟩
    rcases k4 with k4 | ⟨b', c', e', cap, r1, r2, r3, r4, r5, r6, r7, r8, r9, r10, r11⟩ | ⟨b', c', e', cap, k, junk, r1, r2, r3, r4, r5, r6, r7, r8, r9, r10, r11⟩ | k4
    · exact .inl k4
    · obtain ⟨s1, s2, s3, s4, s5⟩ := hin _ _ _ _ _ _ b' hO r1 r8 r9 r10 (h.apart _ _ _ _ _ _ b' h1 r1)
      exact .inr (.inl ⟨b', c', e', cap, r1, r2, r3, r4, s1.trans r5, r6, r7.mono fun v p hv => hv.mono hS hsame, s2, s3, s4, r11⟩)
    · obtain ⟨s1, s2, s3, s4, s5⟩ := hin _ _ _ _ _ _ b' hO r1 r9 r10 r11 (h.apart _ _ _ _ _ _ b' h1 r1)
      exact .inr (.inr (.inl ⟨b', c', e', cap, k, junk, r1, r2, r3, r4, r5, s1.trans r6, r7, r8.mono fun v p hv => hv.mono hS hsame, s2, s3, s4⟩))
    · exact .inr (.inr (.inr k4))
  · obtain ⟨h1, h2⟩ := hE _ _ _ _ _ _ hO
    obtain ⟨b, c, e, u, k1, k2, k3, k4⟩ := h.at_ _ _ _ _ _ _ h1
    obtain ⟨r8, r9, r10⟩ := k4.blk hb
    exact (hin _ _ _ _ _ _ b' hO hb r8 r9 r10 (h.apart _ _ _ _ _ _ b' h1 hb)).2.2.2.2
  · obtain ⟨a1, _⟩ := hE _ _ _ _ _ _ hO
    obtain ⟨a2, _⟩ := hE _ _ _ _ _ _ hO2
    obtain ⟨e1, e2, e3⟩ := h.inj _ _ _ _ _ _ _ _ _ _ _ _ b' a1 a2 h1 h2
    exact ⟨hρ _ _ _ _ _ _ _ _ _ _ _ _ hO hO2 e1, e2, e3⟩
theorem OwnE.of {H H' : Hp} {id sz i j isz : Nat} {irows : List (List FV)} (h : OwnE H' id sz i j isz irows) (hh : ∀ o, hlook H' id = some o → hlook H id = some o) : OwnE H id sz i j isz irows :=
  let ⟨rows, r, h1, h2, h3⟩ := h; ⟨rows, r, hh _ h1, h2, h3⟩
/-- an object without such cells -/
def Ob.plain : Ob → Prop
  | .refs _ rows => ∀ r ∈ rows, ∀ p ∈ r, ∀ a b, p ≠ .own a b
  | _ => True
theorem OwnE.notPlain {H : Hp} {id sz i j isz : Nat} {irows : List (List FV)} {o : Ob} (h : OwnE H id sz i j isz irows) (ho : hlook H id = some o) (hp : o.plain) : False := by
  obtain ⟨rows, r, h1, h2, h3⟩ := h
  rw [h1] at ho; cases ho
  exact hp r (List.mem_of_getElem? h2) _ (List.mem_of_getElem? h3) _ _ rfl

structure Mem (C : Cx) (H : Hp) (nx : Nat) (S : Nat → Prop) (m : Ids) (w : World) : Prop where
  os : w.os = C.w0.os ∧ C.w0.drawn ≤ w.drawn
  tape : w.tape = C.w0.tape
  output : w.output = C.w0.output
  fz : ∀ a, a.block < C.w0.heap.size → w.frozen? a = C.w0.frozen? a
  size : C.w0.heap.size ≤ w.heap.size
  frame : ∀ b, b < C.w0.heap.size → ¬ C.own0 b → w.heap[b]? = C.w0.heap[b]?
  le : Le C.S0 C.m0 C.w0 S m w
  sub : ∀ b, S b → C.S0 b ∨ C.own0 b ∨ C.w0.heap.size ≤ b
  n0 : ∀ i x, C.m0 i = some x → i < C.n0
  objs : ∀ id o, hlook H id = some o → ORep w S m id o
  blk : ∀ id o b, hlook H id = some o → m id = some (some b) → ¬ S b ∧ b < w.heap.size ∧ (C.w0.heap.size ≤ b ∨ C.own0 b)
  inj : ∀ id id' o o' b, hlook H id = some o → hlook H id' = some o' → m id = some (some b) → m id' = some (some b) → id = id'
  stab : ∀ b, S b → b < w.heap.size
  fresh : ∀ i, nx ≤ i → m i = none
  nst : ∃ ib, Nst C H S m w ib

theorem Mem.lt {C : Cx} {H : Hp} {nx : Nat} {S : Nat → Prop} {m : Ids} {w : World} (h : Mem C H nx S m w) {i : Nat} {x : Option Nat} (hi : m i = some x) : i < nx := by
  rcases Nat.lt_or_ge i nx with h1 | h1
  · exact h1
  · rw [h.fresh i h1] at hi; cases hi

def RepAt (w : World) (S : Nat → Prop) (m : Ids) (a : Act) (t : Nat) (q : PV) : Prop := ∃ v, a.tmps[t]? = some v ∧ Rep w S m v q

theorem RepAt.mono {w w' : World} {S S' : Nat → Prop} {m m' : Ids} (hle : Le S m w S' m' w') {a : Act} {t : Nat} {q : PV} (h : RepAt w S m a t q) : RepAt w' S' m' a t q :=
  let ⟨v, h1, h2⟩ := h; ⟨v, h1, h2.mono hle⟩

structure Rel (C : Cx) (N : Nat) (G : Env) (H : Hp) (nx : Nat) (a : Act) (w : World) : Prop where
  defers : a.defers = C.df
  size : a.tmps.size = N
  mem : ∃ S m, Mem C H nx S m w ∧ ∀ t q, look G t = some q → RepAt w S m a t q

def Next (C : Cx) (N : Nat) (G : Env) (H : Hp) (nx : Nat) (K : Act → World → Prop) : Prop :=
  ∀ a w, Rel C N G H nx a w → K a w

/-- the fields that every step keeps alike -/
theorem Mem.step {C : Cx} {H H' : Hp} {nx nx' : Nat} {S S' : Nat → Prop} {m m' : Ids} {w w' : World} (h : Mem C H nx S m w) (hle : Le S m w S' m' w')
    (hos : w'.os = w.os ∧ w.drawn ≤ w'.drawn) (htape : w'.tape = w.tape) (hout : w'.output = w.output) (hfz : ∀ a, a.block < w.heap.size → w'.frozen? a = w.frozen? a) (hsize : w.heap.size ≤ w'.heap.size) (hframe : ∀ b, b < C.w0.heap.size → ¬ C.own0 b → w'.heap[b]? = w.heap[b]?)
    (hsub : ∀ b, S' b → S b ∨ C.own0 b ∨ C.w0.heap.size ≤ b)
    (objs : ∀ id o, hlook H' id = some o → ORep w' S' m' id o)
    (blk : ∀ id o b, hlook H' id = some o → m' id = some (some b) → ¬ S' b ∧ b < w'.heap.size ∧ (C.w0.heap.size ≤ b ∨ C.own0 b))
    (inj : ∀ id id' o o' b, hlook H' id = some o → hlook H' id' = some o' → m' id = some (some b) → m' id' = some (some b) → id = id')
    (stab : ∀ b, S' b → b < w'.heap.size) (fresh : ∀ i, nx' ≤ i → m' i = none) (nst : ∃ ib, Nst C H' S' m' w' ib) : Mem C H' nx' S' m' w' :=
  ⟨⟨hos.1.trans h.os.1, Nat.le_trans h.os.2 hos.2⟩, htape.trans h.tape, hout.trans h.output, fun a ha => (hfz a (Nat.lt_of_lt_of_le ha h.size)).trans (h.fz a ha), Nat.le_trans h.size hsize, fun b h1 h2 => (hframe b h1 h2).trans (h.frame b h1 h2), h.le.trans hle,
    fun b hb => (hsub b hb).elim (h.sub b) .inr, h.n0, objs, blk, inj, stab, fresh, nst⟩

/-- names as they were; blocks as they were but for new ones and those of known objects -/
theorem Mem.nkeep {C : Cx} {H H' : Hp} {nx : Nat} {S S' : Nat → Prop} {m m' : Ids} {w w' : World} (hm : Mem C H nx S m w) (hle : Le S m w S' m' w') (hsz : w.heap.size ≤ w'.heap.size)
    (hE : ∀ id sz i j isz irows, OwnE H' id sz i j isz irows → OwnE H id sz i j isz irows)
    (hmain : ∀ id sz i j isz irows b c e u, OwnE H' id sz i j isz irows → m id = some (some b) → w.heap[b]? = some (.cells c e (0, 0)) → c[i * sz + j]? = some u → ∃ c2 e2, w'.heap[b]? = some (.cells c2 e2 (0, 0)) ∧ c2[i * sz + j]? = some u)
    (hin : ∀ b', b' < w.heap.size → ¬ S b' → (∀ id2 o2, hlook H id2 = some o2 → m id2 ≠ some (some b')) → w'.heap[b']? = w.heap[b']? ∧ ¬ S' b' ∧ ∀ id2 o2, hlook H' id2 = some o2 → m' id2 ≠ some (some b')) :
    ∃ ib, Nst C H' S' m' w' ib := by
  obtain ⟨ib, hn⟩ := hm.nst
  refine ⟨_, hn.keep (fun i => i) (fun id sz i j isz irows hO => ⟨hE _ _ _ _ _ _ hO, ?_⟩) (fun _ _ _ _ _ _ _ _ _ _ _ _ _ _ h => h) hle.st hle.same hmain (fun id sz i j isz irows b' hO hb h1 h2 h3 h4 => ?_)⟩
  · obtain ⟨b, c, e, u, k1, _⟩ := hn.at_ _ _ _ _ _ _ (hE _ _ _ _ _ _ hO)
    rw [k1]; exact hle.ids _ _ k1
  · obtain ⟨q1, q2, q3⟩ := hin b' h2 h1 h4
    exact ⟨q1, q2, Nat.lt_of_lt_of_le h2 hsz, h3, q3⟩

/-- the world may draw -/
theorem Mem.drew {C : Cx} {H : Hp} {nx : Nat} {S : Nat → Prop} {m : Ids} {w : World} (h : Mem C H nx S m w) : Mem C H nx S m { w with drawn := w.drawn + 1 } := by
  have hle : Le S m w S m { w with drawn := w.drawn + 1 } := ⟨fun _ h => h, fun _ _ => rfl, fun _ _ h => h, fun _ _ h => h⟩
  exact ⟨⟨h.os.1, Nat.le_succ_of_le h.os.2⟩, h.tape, h.output, h.fz, h.size, h.frame, h.le.trans hle, h.sub, h.n0, fun id o ho => (h.objs id o ho).mono hle (fun _ _ => rfl), h.blk, h.inj, h.stab, h.fresh, h.nkeep hle (Nat.le_refl _) (fun _ _ _ _ _ _ h => h) (fun _ _ _ _ _ _ _ c e _ _ _ k2 k3 => ⟨c, e, k2, k3⟩) (fun b' _ h2 h3 => ⟨rfl, h2, h3⟩)⟩

/-- the pending marks are no part of the memory's relation -/
theorem Mem.df {C : Cx} {H : Hp} {nx : Nat} {S : Nat → Prop} {m : Ids} {w : World} (h : Mem C H nx S m w) (d : List Deferred) : Mem { C with df := d } H nx S m w :=
  ⟨h.os, h.tape, h.output, h.fz, h.size, h.frame, h.le, h.sub, h.n0, h.objs, h.blk, h.inj, h.stab, h.fresh, let ⟨ib, hn⟩ := h.nst; ⟨ib, ⟨hn.at_, hn.apart, hn.inj⟩⟩⟩

end Go.RT
/- The engine, part 2: one lexical run of a region serves every order that the draw allows. -/
namespace Go.RT

def opTmps (o : Oper) : List Tmp := o.op.operands.toList.filterMap fun | .tmp t => some t | _ => none

structure OpS (P : Program) (o : Oper) (g : Bool) (G : Env) (H : Hp) (nx : Nat) (p : PV) (H' : Hp) (nx' : Nat) : Prop where
  runE : ∀ (C : Cx) (S : Nat → Prop) (m : Ids) (a : Act) (w : World), Mem C H nx S m w → g = true →
    (∀ t q, t ∈ opTmps o → look G t = some q → RepAt w S m a t q) →
    ∀ (K : Act → World → Prop) (Q : Exit → Act → World → Prop),
      (∀ v w' S' m', Mem C H' nx' S' m' w' → Le S m w S' m' w' → Rep w' S' m' v p → K (a.put o.dst v) w') → o.wpE P a w K Q

theorem OpS.run {r : Option Nat} {P : Program} {o : Oper} {g : Bool} {G : Env} {H : Hp} {nx : Nat} {p : PV} {H' : Hp} {nx' : Nat} (h : OpS P o g G H nx p H' nx') (C : Cx) (S : Nat → Prop) (m : Ids) (a : Act) (w : World) (hm : Mem C H nx S m w) (hg : g = true)
    (ha : ∀ t q, t ∈ opTmps o → look G t = some q → RepAt w S m a t q) (K : Act → World → Prop) (Q : Exit → Act → World → Prop)
    (hK : ∀ v w' S' m', Mem C H' nx' S' m' w' → Le S m w S' m' w' → Rep w' S' m' v p → K (a.put o.dst v) w') : o.wpIn (FM r) 0 P a w K Q := h.runE C S m a w hm hg ha K Q hK r

/-- what an operation does with the heap: nothing; it reads the objects F; it may change the objects W (none: any) -/
inductive Kd where
  | p | l (F : List Nat) | e (W : Option (List Nat))
  deriving DecidableEq
def Kd.isE : Kd → Bool
  | .e _ => true
  | _ => false
def Kd.compat : Kd → Kd → Bool
  | .p, _ => true
  | _, .p => true
  | .l _, .l _ => true
  | .l F, .e (some W) => F.all fun i => !W.contains i
  | .e (some W), .l F => F.all fun i => !W.contains i
  | _, _ => false
/-- what reads the objects F alone -/
def OpL (P : Program) (o : Oper) (g : Bool) (G : Env) (H : Hp) (F : List Nat) (p : PV) : Prop :=
  ∀ H' nx', (∀ i, F.contains i = true → hlook H' i = hlook H i) → OpS P o g G H' nx' p H' nx'
/-- only the objects W differ -/
def Chg (W : Option (List Nat)) (H1 H : Hp) : Prop := ∀ L, W = some L → ∀ i, L.contains i = false → hlook H1 i = hlook H i

/-- a guard's truth: of a value that was yielded, or that may not have been -/
inductive Grd (G : Env) (d : Tmp) (b : Bool) : Bool → Prop where
  | lit (t : Bool) : look G d = some (.fz (.lit (.bool t))) → Grd G d b (t == b)
  | opt (g t : Bool) : look G d = some (.opt g (.fz (.lit (.bool t)))) → Grd G d b (g && (t == b))
theorem Grd.yield {G : Env} {d : Tmp} {b g : Bool} (h : Grd G d b g) {ops : Array Oper} {j : Nat} {w : World} {S : Nat → Prop} {m : Ids} {a : Act} (hd : (ops[j]?).bind (·.dst) = some d) (hr : ∀ q, look G d = some q → RepAt w S m a d q) : (yielded ops a.tmps j == some b) = g := by
  cases h with
  | lit t hl =>
    obtain ⟨v, hv, hr⟩ := hr _ hl
    cases hr with
    | fz _ _ h => cases h with
      | lit => unfold yielded; rw [hd]; simp [hv]
  | opt g t hl =>
    obtain ⟨v, hv, hr⟩ := hr _ hl
    cases hr with
    | opt _ _ _ h hu =>
      cases g with
      | false => unfold yielded; rw [hd]; simp [hv, hu rfl, undef]
      | true =>
        cases h rfl with
        | fz _ _ h => cases h with
          | lit => unfold yielded; rw [hd]; simp [hv]

def gput (G : Env) (d : Option Tmp) (p : PV) : Env := match d with | some d => (d, p) :: G | none => G
def dstOf (ops : Array Oper) (j : Nat) : Option Tmp := (ops[j]?).bind (·.dst)

inductive Der (P : Program) (ops : Array Oper) : List Oper → Env → Hp → Nat → List Kd → Env → Hp → Nat → Prop where
  | nil {G : Env} {H : Hp} {nx : Nat} : Der P ops [] G H nx [] G H nx
  | pure {o : Oper} {rest : List Oper} {G : Env} {H : Hp} {nx : Nat} {p : PV} {ks : List Kd} {G' : Env} {H' : Hp} {nx' : Nat} (hg : o.guard = none)
      (h : ∀ H nx, OpS P o true G H nx p H nx) (tl : Der P ops rest (gput G o.dst p) H nx ks G' H' nx') : Der P ops (o :: rest) G H nx (.p :: ks) G' H' nx'
  | pureG {o : Oper} {rest : List Oper} {G : Env} {H : Hp} {nx : Nat} {p : PV} {ks : List Kd} {G' : Env} {H' : Hp} {nx' : Nat} {j : Nat} {b g : Bool} {d : Tmp} (hg : o.guard = some (j, b))
      (hd : dstOf ops j = some d) (hl : Grd G d b g) (h : ∀ H nx, OpS P o g G H nx p H nx) (tl : Der P ops rest (gput G o.dst (.opt g p)) H nx ks G' H' nx') :
      Der P ops (o :: rest) G H nx (.p :: ks) G' H' nx'
  | load {o : Oper} {rest : List Oper} {G : Env} {H : Hp} {nx : Nat} {p : PV} {ks : List Kd} {G' : Env} {H' : Hp} {nx' : Nat} {F : List Nat} (hg : o.guard = none)
      (h : OpL P o true G H F p) (tl : Der P ops rest (gput G o.dst p) H nx ks G' H' nx') : Der P ops (o :: rest) G H nx (.l F :: ks) G' H' nx'
  | loadG {o : Oper} {rest : List Oper} {G : Env} {H : Hp} {nx : Nat} {p : PV} {ks : List Kd} {G' : Env} {H' : Hp} {nx' : Nat} {j : Nat} {b g : Bool} {d : Tmp} (hg : o.guard = some (j, b))
      (hd : dstOf ops j = some d) (hl : Grd G d b g) {F : List Nat} (h : OpL P o g G H F p) (tl : Der P ops rest (gput G o.dst (.opt g p)) H nx ks G' H' nx') :
      Der P ops (o :: rest) G H nx (.l F :: ks) G' H' nx'
  | eff {o : Oper} {rest : List Oper} {G : Env} {H : Hp} {nx : Nat} {p : PV} {ks : List Kd} {H1 : Hp} {nx1 : Nat} {G' : Env} {H' : Hp} {nx' : Nat} (hg : o.guard = none)
      (h : OpS P o true G H nx p H1 nx1) {W : Option (List Nat)} (hW : Chg W H1 H) (tl : Der P ops rest (gput G o.dst p) H1 nx1 ks G' H' nx') : Der P ops (o :: rest) G H nx (.e W :: ks) G' H' nx'
  | effG {o : Oper} {rest : List Oper} {G : Env} {H : Hp} {nx : Nat} {p : PV} {ks : List Kd} {H1 : Hp} {nx1 : Nat} {G' : Env} {H' : Hp} {nx' : Nat} {j : Nat} {b g : Bool} {d : Tmp} (hg : o.guard = some (j, b))
      (hd : dstOf ops j = some d) (hl : Grd G d b g) (hgt : g = true) (h : OpS P o g G H nx p H1 nx1) {W : Option (List Nat)} (hW : Chg W H1 H) (tl : Der P ops rest (gput G o.dst (.opt g p)) H1 nx1 ks G' H' nx') : Der P ops (o :: rest) G H nx (.e W :: ks) G' H' nx'

structure St where
  G : Env
  H : Hp
  nx : Nat

/-- one step, whichever constructor -/
structure StepOK (P : Program) (ops : Array Oper) (o : Oper) (k : Kd) (s s' : St) (g : Bool) (p q : PV) : Prop where
  grd : (o.guard = none ∧ g = true ∧ q = p) ∨ ∃ j b d, o.guard = some (j, b) ∧ dstOf ops j = some d ∧ Grd s.G d b g ∧ q = .opt g p
  env : s'.G = gput s.G o.dst q
  stay : k.isE = false → s'.H = s.H ∧ s'.nx = s.nx
  pure : k = .p → ∀ H nx, OpS P o g s.G H nx p H nx
  load : ∀ F, k = .l F → OpL P o g s.G s.H F p
  eff : ∀ W, k = .e W → g = true ∧ Chg W s'.H s.H ∧ OpS P o g s.G s.H s.nx p s'.H s'.nx

theorem Der.trace {P : Program} {ops : Array Oper} {l : List Oper} {G : Env} {H : Hp} {nx : Nat} {ks : List Kd} {G' : Env} {H' : Hp} {nx' : Nat} (h : Der P ops l G H nx ks G' H' nx') :
    ks.length = l.length ∧ ∃ T : Nat → St, T 0 = ⟨G, H, nx⟩ ∧ T l.length = ⟨G', H', nx'⟩ ∧ ∀ i o k, l[i]? = some o → ks[i]? = some k → ∃ g p q, StepOK P ops o k (T i) (T (i + 1)) g p q := by
  have cons : ∀ {G : Env} {H : Hp} {nx : Nat} {o : Oper} {k0 : Kd} {rest : List Oper} {ks : List Kd} {G1 : Env} {H1 : Hp} {nx1 : Nat} {G' : Env} {H' : Hp} {nx' : Nat} {g : Bool} {p q : PV}, StepOK P ops o k0 ⟨G, H, nx⟩ ⟨G1, H1, nx1⟩ g p q →
      (ks.length = rest.length ∧ ∃ T : Nat → St, T 0 = ⟨G1, H1, nx1⟩ ∧ T rest.length = ⟨G', H', nx'⟩ ∧ ∀ i o k, rest[i]? = some o → ks[i]? = some k → ∃ g p q, StepOK P ops o k (T i) (T (i + 1)) g p q) →
      (k0 :: ks).length = (o :: rest).length ∧ ∃ T : Nat → St, T 0 = ⟨G, H, nx⟩ ∧ T (o :: rest).length = ⟨G', H', nx'⟩ ∧ ∀ i o' k, (o :: rest)[i]? = some o' → (k0 :: ks)[i]? = some k → ∃ g p q, StepOK P ops o' k (T i) (T (i + 1)) g p q := by
    intro G H nx o k0 rest ks G1 H1 nx1 G' H' nx' g p q hs ih
    obtain ⟨hk, T, h0, hn, hT⟩ := ih
    refine ⟨by simp [hk], fun i => match i with | 0 => ⟨G, H, nx⟩ | i + 1 => T i, rfl, by simpa using hn, fun i o' k h1 h2 => ?_⟩
    cases i with
    | zero => simp at h1 h2; subst h1; subst h2; exact ⟨g, p, q, by simpa [h0] using hs⟩
    | succ i => exact hT i o' k (by simpa using h1) (by simpa using h2)
  induction h with
  | nil => exact ⟨rfl, fun _ => ⟨_, _, _⟩, rfl, rfl, fun i o k h => by simp at h⟩
  | pure hg h tl ih => exact cons (p := _) ⟨.inl ⟨hg, rfl, rfl⟩, rfl, fun _ => ⟨rfl, rfl⟩, fun _ => h, fun _ h => by simp at h, fun _ h => by simp at h⟩ ih
  | pureG hg hd hl h tl ih => exact cons ⟨.inr ⟨_, _, _, hg, hd, hl, rfl⟩, rfl, fun _ => ⟨rfl, rfl⟩, fun _ => h, fun _ h => by simp at h, fun _ h => by simp at h⟩ ih
  | load hg h tl ih => exact cons ⟨.inl ⟨hg, rfl, rfl⟩, rfl, fun _ => ⟨rfl, rfl⟩, fun h => by simp at h, fun _ e => by cases e; exact h, fun _ h => by simp at h⟩ ih
  | loadG hg hd hl h tl ih => exact cons ⟨.inr ⟨_, _, _, hg, hd, hl, rfl⟩, rfl, fun _ => ⟨rfl, rfl⟩, fun h => by simp at h, fun _ e => by cases e; exact h, fun _ h => by simp at h⟩ ih
  | eff hg h hW tl ih => exact cons ⟨.inl ⟨hg, rfl, rfl⟩, rfl, fun h => by simp [Kd.isE] at h, fun h => by simp at h, fun _ h => by simp at h, fun _ e => by cases e; exact ⟨rfl, hW, h⟩⟩ ih
  | effG hg hd hl hgt h hW tl ih => exact cons ⟨.inr ⟨_, _, _, hg, hd, hl, rfl⟩, rfl, fun h => by simp [Kd.isE] at h, fun h => by simp at h, fun _ h => by simp at h, fun _ e => by cases e; exact ⟨hgt, hW, h⟩⟩ ih

/-- before: an ancestor in the region's own order -/
inductive Anc (ops : Array Oper) : Nat → Nat → Prop where
  | dir (i : Nat) (o : Oper) (e : Edge) : ops[i]? = some o → e ∈ o.after → Region.binds .any e = true → Anc ops e.on i
  | via (i j : Nat) (o : Oper) (e : Edge) : ops[i]? = some o → e ∈ o.after → Region.binds .any e = true → Anc ops j e.on → Anc ops j i

theorem fold_bits (acc : Array Nat) (es : List Edge) : ∀ (s j : Nat), (es.foldl (fun s e => if Region.binds .any e then s ||| 2 ^ e.on ||| acc.getD e.on 0 else s) s).testBit j = true →
    s.testBit j = true ∨ ∃ e ∈ es, Region.binds .any e = true ∧ (e.on = j ∨ (acc.getD e.on 0).testBit j = true) := by
  induction es with
  | nil => exact fun s j h => .inl h
  | cons e es ih =>
    intro s j h
    rw [List.foldl_cons] at h
    rcases ih _ j h with h | ⟨e', he', hb, h⟩
    · by_cases hb : Region.binds .any e = true
      · rw [if_pos hb, Nat.testBit_or, Nat.testBit_or, Nat.testBit_two_pow, Bool.or_eq_true, Bool.or_eq_true, decide_eq_true_eq] at h
        rcases h with (h | h) | h
        · exact .inl h
        · exact .inr ⟨e, by simp, hb, .inl h⟩
        · exact .inr ⟨e, by simp, hb, .inr h⟩
      · rw [if_neg hb] at h; exact .inl h
    · exact .inr ⟨e', by simp [he'], hb, h⟩

theorem before_spec (ops : Array Oper) : ∀ i j, ((Region.before ops).getD i 0).testBit j = true → Anc ops j i := by
  suffices h : ∀ (l done : List Oper) (acc : Array Nat), done ++ l = ops.toList → acc.size = done.length → (∀ i j, (acc.getD i 0).testBit j = true → Anc ops j i) →
      ∀ i j, ((l.foldl (fun acc o => acc.push (o.after.foldl (fun s e => if Region.binds .any e then s ||| 2 ^ e.on ||| acc.getD e.on 0 else s) 0)) acc).getD i 0).testBit j = true → Anc ops j i by
    intro i j hij
    refine h ops.toList [] #[] (by simp) (by simp) (fun i j h => by simp at h) i j ?_
    simpa [Region.before, ← Array.foldl_toList] using hij
  intro l
  induction l with
  | nil => exact fun done acc _ _ h => h
  | cons o l ih =>
    intro done acc hd hs hacc
    rw [List.foldl_cons]
    refine ih (done ++ [o]) _ (by simp [← hd]) (by simp [hs]) (fun i j h => ?_)
    rw [Array.getD_eq_getD_getElem?, Array.getElem?_push] at h
    by_cases hi : i = acc.size
    · rw [if_pos hi] at h
      simp only [Option.getD_some] at h
      have ho : ops[i]? = some o := by
        rw [← Array.getElem?_toList, ← hd, hi, hs]; simp
      rw [← Array.foldl_toList] at h
      rcases fold_bits acc o.after.toList 0 j h with h | ⟨e, he, hb, h⟩
      · simp at h
      · have he' : e ∈ o.after := Array.mem_toList_iff.1 he
        rcases h with rfl | h
        · exact .dir i o e ho he' hb
        · exact .via i j o e ho he' hb (hacc _ _ h)
    · rw [if_neg hi, ← Array.getD_eq_getD_getElem?] at h
      exact hacc _ _ h

def kdAt (ks : List Kd) (i : Nat) : Kd := (ks[i]?).getD .p
/-- what is asked of a region's own order: closed, by the kernel -/
def regOK (ops : Array Oper) (ks : List Kd) (N : Nat) : Bool :=
  let B := Region.before ops
  (List.range ops.size).all fun j => match ops[j]? with
    | none => true
    | some oj =>
      (match oj.dst with | some d => decide (d < N) | none => true) &&
      (oj.after.all fun e => !Region.binds .any e || decide (e.on < j)) &&
      (match oj.guard with | some (i, _) => decide (i < j) | none => true) &&
      (List.range j).all fun i => (B.getD j 0).testBit i || (match ops[i]? with
        | none => true
        | some oi => oi.apart ops oj && (kdAt ks i).compat (kdAt ks j))
end Go.RT
/- The engine, part 3: the theorem on a region that draws its order, and the plain one. -/
namespace Go.RT

section
variable {P : Program} {ops : Array Oper} {ks : List Kd} {N : Nat} {r : Option Nat}

structure Good (ops : Array Oper) (ks : List Kd) (N : Nat) : Prop where
  dst : ∀ (j : Nat) (o : Oper) (d : Tmp), ops[j]? = some o → o.dst = some d → d < N
  back : ∀ (j : Nat) (o : Oper) (e : Edge), ops[j]? = some o → e ∈ o.after → Region.binds .any e = true → e.on < j
  grd : ∀ (j : Nat) (o : Oper) (i : Nat) (b : Bool), ops[j]? = some o → o.guard = some (i, b) → i < j
  ord : ∀ (i j : Nat) (oi oj : Oper), i < j → ops[i]? = some oi → ops[j]? = some oj → Anc ops i j ∨
    (oi.apart ops oj = true ∧ (kdAt ks i).compat (kdAt ks j) = true)

theorem regOK_spec (h : regOK ops ks N = true) : Good ops ks N := by
  have hj : ∀ j o, ops[j]? = some o → _ := fun j o ho => by
    have := List.all_eq_true.1 h j (List.mem_range.2 (Array.getElem?_eq_some_iff.1 ho).1)
    rw [ho] at this
    exact this
  simp only [Bool.and_eq_true, Array.all_eq_true_iff_forall_mem, Bool.or_eq_true, Bool.not_eq_true', decide_eq_true_eq, List.all_eq_true, List.mem_range] at hj
  refine ⟨fun j o d ho hd => ?_, fun j o e ho he hb => ?_, fun j o i b ho hg => ?_, fun i j oi oj hij hi hoj => ?_⟩
  · have := (hj j o ho).1.1.1
    rw [hd] at this
    simpa using this
  · rcases (hj j o ho).1.1.2 e he with h | h
    · rw [hb] at h; cases h
    · exact h
  · have := (hj j o ho).1.2
    rw [hg] at this
    simpa using this
  · rcases (hj j oj hoj).2 i hij with h | h
    · exact .inl (before_spec ops _ _ h)
    · rw [hi] at h
      simp only [Bool.and_eq_true] at h
      exact .inr h

/-- listed operations are closed under 'before' -/
def Closed (ops : Array Oper) (X : Array Bool) : Prop := ∀ i o e, X.getD i false = true → ops[i]? = some o → e ∈ o.after → Region.binds .any e = true → X.getD e.on false = true

theorem Anc.listed {X : Array Bool} (hc : Closed ops X) {i j : Nat} (h : Anc ops j i) : (X.getD i false = true → X.getD j false = true) := by
  induction h with
  | dir i o e ho he hb => exact fun hi => hc i o e hi ho he hb
  | via i j o e ho he hb _ ih => exact fun hi => ih (hc i o e hi ho he hb)

theorem Anc.ready {X : Array Bool} (hc : Closed ops X) {i j : Nat} (h : Anc ops j i) (hr : ∀ o, ops[i]? = some o → ∀ e ∈ o.after, Region.binds .any e = true → X.getD e.on false = true) : X.getD j false = true := by
  cases h with
  | dir _ o e ho he hb => exact hr o ho e he hb
  | via _ _ o e ho he hb h => exact h.listed hc (hr o ho e he hb)

theorem all_listed {X : Array Bool} (hg : Good ops ks N) (hX : X.size = ops.size) (hr : Region.ready .any ops X = []) : ∀ i, i < ops.size → X.getD i false = true := by
  intro i
  induction i using Nat.strongRecOn with
  | _ i ih =>
    intro hi
    rcases hx : X.getD i false with _ | _
    · exfalso
      have hm : i ∈ Region.ready .any ops X := by
        rw [mem_ready]
        refine ⟨?_, ops[i], by simp [hi], fun e he hb => ih e.on (hg.back i ops[i] e (by simp [hi]) he hb) (Nat.lt_trans (hg.back i ops[i] e (by simp [hi]) he hb) hi)⟩
        have : i < X.size := by omega
        simpa [Array.getD, this] using hx
      rw [hr] at hm
      simp at hm
    · rfl

def SlotInv (w : World) (S : Nat → Prop) (m : Ids) (ops : Array Oper) (T : Nat → St) (X : Array Bool) (a : Act) (t : Nat) : Prop :=
  ((∀ i, X.getD i false = true → dstOf ops i ≠ some t) → ∀ q, look (T 0).G t = some q → RepAt w S m a t q) ∧
  ∀ i, X.getD i false = true → dstOf ops i = some t → (∀ j, X.getD j false = true → dstOf ops j = some t → j ≤ i) → ∀ q, look (T (i + 1)).G t = some q → RepAt w S m a t q

structure Inv (ops : Array Oper) (ks : List Kd) (N : Nat) (T : Nat → St) (C : Cx) (X : Array Bool) (a : Act) (w : World) : Prop where
  defers : a.defers = C.df
  size : a.tmps.size = N
  xs : X.size = ops.size
  closed : Closed ops X
  mem : ∃ S m k, k ≤ ops.size ∧ (∀ i, i < ops.size → (kdAt ks i).isE = true → (X.getD i false = true ↔ i < k)) ∧ Mem C (T k).H (T k).nx S m w ∧ ∀ t, SlotInv w S m ops T X a t

def Trace (P : Program) (ops : Array Oper) (ks : List Kd) (T : Nat → St) : Prop := ∀ i o, ops[i]? = some o → ∃ g p q, StepOK P ops o (kdAt ks i) (T i) (T (i + 1)) g p q

theorem look_gput (G : Env) (d : Option Tmp) (p : PV) (t : Nat) : look (gput G d p) t = if d = some t then some p else look G t := by
  cases d with
  | none => simp [gput]
  | some d => simp [gput, look_cons]

theorem Trace.look {T : Nat → St} (hT : Trace P ops ks T) (t i j : Nat) (hij : i ≤ j) (hj : j ≤ ops.size) (hn : ∀ k, i ≤ k → k < j → dstOf ops k ≠ some t) : look (T j).G t = look (T i).G t := by
  induction hij with
  | refl => rfl
  | @step j hij ih =>
    have hij : i ≤ j := hij
    have hlt : j < ops.size := by omega
    obtain ⟨g, p, q, hs⟩ := hT j ops[j] (by simp [hlt])
    rw [hs.env, look_gput, if_neg, ih (by omega) (fun k h1 h2 => hn k h1 (by omega))]
    have := hn j hij (by omega)
    simpa [dstOf, hlt] using this

theorem Trace.heap {T : Nat → St} (hT : Trace P ops ks T) (i j : Nat) (hij : i ≤ j) (hj : j ≤ ops.size) (hn : ∀ k, i ≤ k → k < j → (kdAt ks k).isE = false) : (T j).H = (T i).H ∧ (T j).nx = (T i).nx := by
  induction hij with
  | refl => exact ⟨rfl, rfl⟩
  | @step j hij ih =>
    have hij : i ≤ j := hij
    have hlt : j < ops.size := by omega
    obtain ⟨g, p, q, hs⟩ := hT j ops[j] (by simp [hlt])
    obtain ⟨h1, h2⟩ := hs.stay (hn j hij (by omega))
    obtain ⟨h3, h4⟩ := ih (by omega) (fun k h1 h2 => hn k h1 (by omega))
    exact ⟨h1.trans h3, h2.trans h4⟩

theorem getD_set_self {X : Array Bool} {i : Nat} (h : i < X.size) : (X.setIfInBounds i true).getD i false = true := by
  simp [Array.getD, h]

theorem set_iff {X : Array Bool} {i j : Nat} (h : i < X.size) : (X.setIfInBounds i true).getD j false = true ↔ j = i ∨ X.getD j false = true := by
  by_cases hij : i = j
  · subst hij; simp [getD_set_self h]
  · rw [getD_set_ne _ hij]; simp; omega

theorem put_at {a : Act} {d : Option Tmp} {v : Value} {t : Nat} (h : d ≠ some t) : (a.put d v).tmps[t]? = a.tmps[t]? := by
  cases d with
  | none => rfl
  | some d => simp only [Act.put]; rw [Array.getElem?_setIfInBounds_ne (by intro e; exact h (by rw [e]))]

theorem put_size (a : Act) (d : Option Tmp) (v : Value) : (a.put d v).tmps.size = a.tmps.size := by cases d <;> simp [Act.put]
theorem put_defers (a : Act) (d : Option Tmp) (v : Value) : (a.put d v).defers = a.defers := by cases d <;> rfl
theorem put_self {a : Act} {d : Nat} {v : Value} (h : d < a.tmps.size) : (a.put (some d) v).tmps[d]? = some v := by simp [Act.put, h]

theorem last_writer (ops : Array Oper) (t : Nat) : ∀ i, (∀ k, k < i → dstOf ops k ≠ some t) ∨ ∃ J, J < i ∧ dstOf ops J = some t ∧ ∀ k, J < k → k < i → dstOf ops k ≠ some t
  | 0 => .inl fun k h => by omega
  | i + 1 => by
    by_cases h : dstOf ops i = some t
    · exact .inr ⟨i, by omega, h, fun k h1 h2 => by omega⟩
    · rcases last_writer ops t i with h' | ⟨J, h1, h2, h3⟩
      · exact .inl fun k hk => by
          by_cases hki : k = i
          · subst hki; exact h
          · exact h' k (by omega)
      · exact .inr ⟨J, by omega, h2, fun k hk1 hk2 => by
          by_cases hki : k = i
          · subst hki; exact h
          · exact h3 k hk1 (by omega)⟩

theorem opTmps_looks {o : Oper} {t : Nat} (h : t ∈ opTmps o) : t ∈ o.looksAt ops := by
  unfold Oper.looksAt; exact List.mem_append_left _ h

/-- what a ready operation looks at reads as0 the lexical run has it -/
theorem Inv.reads {T : Nat → St} (hT : Trace P ops ks T) (hgd : Good ops ks N) {X : Array Bool} {a : Act} {w : World} {S : Nat → Prop} {m : Ids} (hxs : X.size = ops.size) (hcl : Closed ops X)
    (hsl : ∀ t, SlotInv w S m ops T X a t) {i : Nat} {o : Oper} (hi : ops[i]? = some o) (hnl : X.getD i false = false) (hr : ∀ e ∈ o.after, Region.binds .any e = true → X.getD e.on false = true) {t : Nat} (ht : t ∈ o.looksAt ops)
    {q : PV} (hq : look (T i).G t = some q) : RepAt w S m a t q := by
  have hin : i < ops.size := (Array.getElem?_eq_some_iff.1 hi).1
  have hr' : ∀ o', ops[i]? = some o' → ∀ e ∈ o'.after, Region.binds .any e = true → X.getD e.on false = true := fun o' ho' => by
    rw [hi] at ho'; cases ho'; exact hr
  have hXlt : ∀ j, X.getD j false = true → j < ops.size := fun j hj => by
    rcases Nat.lt_or_ge j X.size with h | h
    · omega
    · simp [Array.getD, Nat.not_lt.2 h] at hj
  -- a listed writer of t lies before i, an earlier writer is listed
  have hlater : ∀ j, X.getD j false = true → dstOf ops j = some t → j < i := fun j hj hd => by
    rcases Nat.lt_trichotomy j i with h | h | h
    · exact h
    · subst h; rw [hnl] at hj; cases hj
    · have hjn := hXlt j hj
      rcases hgd.ord i j o ops[j] h hi (by simp [hjn]) with ha | ⟨hap, _⟩
      · rw [ha.listed hcl hj] at hnl; cases hnl
      · have hd' : (ops[j]).dst = some t := by simpa [dstOf, hjn] using hd
        exact absurd ht ((Oper.apart_spec hap).2.2 t hd')
  have hearl : ∀ j, j < i → dstOf ops j = some t → X.getD j false = true := fun j hj hd => by
    have hjn : j < ops.size := by omega
    rcases hgd.ord j i ops[j] o hj (by simp [hjn]) hi with ha | ⟨hap, _⟩
    · exact ha.ready hcl hr'
    · have hd' : (ops[j]).dst = some t := by simpa [dstOf, hjn] using hd
      exact absurd ht ((Oper.apart_spec hap).1 t hd')
  rcases last_writer ops t i with h | ⟨J, h1, h2, h3⟩
  · refine (hsl t).1 (fun j hj hd => h j (hlater j hj hd) hd) q ?_
    rw [← hT.look t 0 i (Nat.zero_le _) (by omega) (fun k _ hk => h k hk)]; exact hq
  · refine (hsl t).2 J (hearl J h1 h2) h2 (fun j hj hd => ?_) q ?_
    · rcases Nat.lt_or_ge J j with h | h
      · exact absurd hd (h3 j h (hlater j hj hd))
      · exact h
    · rw [← hT.look t (J + 1) i (by omega) (by omega) (fun k hk1 hk2 => h3 k (by omega) hk2)]; exact hq

/-- the slots behind an operation -/
theorem SlotInv.put {T : Nat → St} (hgd : Good ops ks N) {X : Array Bool} {a : Act} {w w' : World} {S S' : Nat → Prop} {m m' : Ids} (hle : Le S m w S' m' w') (hxs : X.size = ops.size) (hcl : Closed ops X)
    (hsl : ∀ t, SlotInv w S m ops T X a t) {i : Nat} {o : Oper} (hi : ops[i]? = some o) (hnl : X.getD i false = false) (hN : a.tmps.size = N) {v : Value} {g : Bool} {p q : PV} (hs : StepOK P ops o (kdAt ks i) (T i) (T (i + 1)) g p q)
    (hv : Rep w' S' m' v q) : ∀ t, SlotInv w' S' m' ops T (X.setIfInBounds i true) (a.put o.dst v) t := by
  intro t
  have hin : i < ops.size := (Array.getElem?_eq_some_iff.1 hi).1
  have hdi : dstOf ops i = o.dst := by simp [dstOf, hi]
  have hset := fun j => set_iff (X := X) (i := i) (j := j) (by omega)
  have hXlt : ∀ j, X.getD j false = true → j < ops.size := fun j hj => by
    rcases Nat.lt_or_ge j X.size with h | h
    · omega
    · simp [Array.getD, Nat.not_lt.2 h] at hj
  by_cases hd : o.dst = some t
  · refine ⟨fun h => absurd (hdi.trans hd) (h i ((hset i).2 (.inl rfl))), fun j hj hdj hmax q' hq' => ?_⟩
    have hij : i ≤ j := hmax i ((hset i).2 (.inl rfl)) (hdi.trans hd)
    have hji : j = i := by
      rcases Nat.lt_or_ge i j with h | h
      · exfalso
        rcases (hset j).1 hj with rfl | hj'
        · omega
        · have hjn := hXlt j hj'
          rcases hgd.ord i j o ops[j] h hi (by simp [hjn]) with ha | ⟨hap, _⟩
          · rw [ha.listed hcl hj'] at hnl; cases hnl
          · have hd' : (ops[j]).dst = some t := by simpa [dstOf, hjn] using hdj
            exact (Oper.apart_spec hap).2.1 t hd hd'
      · omega
    subst hji
    rw [hs.env, look_gput, if_pos hd] at hq'
    cases hq'
    rw [hd]
    exact ⟨v, put_self (by rw [hN]; exact hgd.dst j o t hi hd), hv⟩
  · have hput : (a.put o.dst v).tmps[t]? = a.tmps[t]? := put_at hd
    have hni : ∀ j, dstOf ops j = some t → j ≠ i := fun j hj e => by subst e; rw [hdi] at hj; exact hd hj
    refine ⟨fun h q' hq' => ?_, fun j hj hdj hmax q' hq' => ?_⟩
    · obtain ⟨u, hu, hr⟩ := (hsl t).1 (fun j hj => h j ((hset j).2 (.inr hj))) q' hq'
      exact ⟨u, hput.trans hu, hr.mono hle⟩
    · have hj' : X.getD j false = true := ((hset j).1 hj).resolve_left (hni j hdj)
      obtain ⟨u, hu, hr⟩ := (hsl t).2 j hj' hdj (fun k hk hdk => hmax k ((hset k).2 (.inr hk)) hdk) q' hq'
      exact ⟨u, hput.trans hu, hr.mono hle⟩

theorem wanted_of {T : Nat → St} (hT : Trace P ops ks T) (hgd : Good ops ks N) {X : Array Bool} {a : Act} {w : World} {S : Nat → Prop} {m : Ids} (hxs : X.size = ops.size) (hcl : Closed ops X)
    (hsl : ∀ t, SlotInv w S m ops T X a t) {i : Nat} {o : Oper} (hi : ops[i]? = some o) (hnl : X.getD i false = false) (hr : ∀ e ∈ o.after, Region.binds .any e = true → X.getD e.on false = true)
    {g : Bool} {p q : PV} (hs : StepOK P ops o (kdAt ks i) (T i) (T (i + 1)) g p q) : Region.wanted o (yielded ops a.tmps) = g := by
  rcases hs.grd with ⟨h1, h2, _⟩ | ⟨j, b, d, h1, h2, h3, _⟩
  · simp [Region.wanted, h1, h2]
  · have hl : d ∈ o.looksAt ops := by
      unfold Oper.looksAt; rw [h1]
      exact List.mem_append_right _ (by simpa [dstOf] using h2)
    simp only [Region.wanted, h1]
    exact h3.yield h2 fun q hq => Inv.reads hT hgd hxs hcl hsl hi hnl hr hl hq

theorem setSize (X : Array Bool) (i : Nat) : (X.setIfInBounds i true).size = X.size := by simp

/-- one ready operation -/
theorem Inv.step {T : Nat → St} (hT : Trace P ops ks T) (hgd : Good ops ks N) {C : Cx} {X : Array Bool} {a : Act} {w : World} (hI : Inv ops ks N T C X a w) {i : Nat} (hr : i ∈ Region.ready .any ops X)
    {Q : Exit → Act → World → Prop} {K : Act → World → Prop} (hK : ∀ a w, Inv ops ks N T C (X.setIfInBounds i true) a w → K a w) : wpOpIn (FM r) 0 P ops Q i K a w := by
  obtain ⟨hnl0, o, hi, hrd⟩ := mem_ready.1 hr
  have hin : i < ops.size := (Array.getElem?_eq_some_iff.1 hi).1
  have hnl : X.getD i false = false := by
    have : i < X.size := by rw [hI.xs]; exact hin
    simpa [Array.getD, this] using hnl0
  obtain ⟨S, m, k, hkn, hk, hmem, hsl⟩ := hI.mem
  obtain ⟨g, p, q, hs⟩ := hT i o hi
  have hw := wanted_of hT hgd hI.xs hI.closed hsl hi hnl hrd hs
  have hset := fun j => set_iff (X := X) (i := i) (j := j) (by rw [hI.xs]; exact hin)
  have hcl' : Closed ops (X.setIfInBounds i true) := fun j oj e hj hoj he hb => by
    rcases (hset j).1 hj with rfl | hj
    · rw [hi] at hoj; cases hoj; exact (hset _).2 (.inr (hrd e he hb))
    · exact (hset _).2 (.inr (hI.closed j oj e hj hoj he hb))
  have hready : ∀ o', ops[i]? = some o' → ∀ e ∈ o'.after, Region.binds .any e = true → X.getD e.on false = true := fun o' ho' => by
    rw [hi] at ho'; cases ho'; exact hrd
  -- which heap the lexical run has here, where that matters
  -- effects that are done and later in the text, or not done and earlier in it, are such as0 this operation does not mind
  have hmind : ∀ j, j < ops.size → (kdAt ks j).isE = true → (i ≤ j ∧ j < k ∨ k ≤ j ∧ j < i) → (kdAt ks j).compat (kdAt ks i) = true ∨ (kdAt ks i).compat (kdAt ks j) = true := fun j hj hje hc => by
    rcases hc with ⟨h1, h2⟩ | ⟨h1, h2⟩
    · have hjl := (hk j hj hje).2 h2
      rcases Nat.lt_or_ge i j with h | h
      · rcases hgd.ord i j o ops[j] h hi (by simp [hj]) with ha | ⟨_, h3⟩
        · rw [ha.listed hI.closed hjl] at hnl; cases hnl
        · exact .inr h3
      · have : i = j := by omega
        subst this; rw [hnl] at hjl; cases hjl
    · rcases hgd.ord j i ops[j] o h2 (by simp [hj]) hi with ha | ⟨_, h3⟩
      · have := (hk j hj hje).1 (ha.ready hI.closed hready); omega
      · exact .inl h3
  have hsame : (kdAt ks i).isE = true → ∀ j, j < ops.size → (kdAt ks j).isE = true → (j < k ↔ j < i) := fun hkp j hj hje => by
    have hno : ¬ (i ≤ j ∧ j < k ∨ k ≤ j ∧ j < i) := fun hc => by
      have := hmind j hj hje hc
      cases h1 : kdAt ks i <;> cases h2 : kdAt ks j <;> rw [h1] at hkp <;> rw [h2] at hje <;> simp [Kd.isE] at hkp hje <;> rw [h1, h2] at this <;> simp [Kd.compat] at this
    omega
  have hheap : (kdAt ks i).isE = true → (T k).H = (T i).H ∧ (T k).nx = (T i).nx := fun hkp => by
    rcases Nat.le_total i k with h | h
    · exact hT.heap i k h hkn (fun j h1 h2 => by
        cases he : (kdAt ks j).isE with
        | false => rfl
        | true => have := (hsame hkp j (by omega) he).1 h2; omega)
    · have := hT.heap k i h (by omega) (fun j h1 h2 => by
        cases he : (kdAt ks j).isE with
        | false => rfl
        | true => have := (hsame hkp j (by omega) he).2 h2; omega)
      exact ⟨this.1.symm, this.2.symm⟩
  -- what a load reads is the same
  have hread : ∀ F, kdAt ks i = .l F → ∀ id, F.contains id = true → hlook (T k).H id = hlook (T i).H id := fun F hkd id hid => by
    have one : ∀ j, j < ops.size → (i ≤ j ∧ j < k ∨ k ≤ j ∧ j < i) → hlook (T (j + 1)).H id = hlook (T j).H id := fun j hj hc => by
      obtain ⟨g', p', q', hsj⟩ := hT j ops[j] (by simp [hj])
      cases hje : kdAt ks j with
      | p => rw [(hsj.stay (by rw [hje]; rfl)).1]
      | l F' => rw [(hsj.stay (by rw [hje]; rfl)).1]
      | e W =>
        obtain ⟨_, hW, _⟩ := hsj.eff W hje
        have := hmind j hj (by rw [hje]; rfl) hc
        rw [hje, hkd] at this
        cases W with
        | none => simp [Kd.compat] at this
        | some W =>
          simp only [Kd.compat, or_self, List.all_eq_true, Bool.not_eq_true'] at this
          exact hW W rfl id (this id (by simpa using hid))
    have run : ∀ n a, (∀ j, a ≤ j → j < a + n → hlook (T (j + 1)).H id = hlook (T j).H id) → hlook (T (a + n)).H id = hlook (T a).H id := fun n => by
      induction n with
      | zero => exact fun a _ => rfl
      | succ n ih => exact fun a h => (h (a + n) (by omega) (by omega)).trans (ih a fun j h1 h2 => h j h1 (by omega))
    rcases Nat.le_total i k with h | h
    · have := run (k - i) i (fun j h1 h2 => one j (by omega) (.inl ⟨h1, by omega⟩))
      rwa [show i + (k - i) = k by omega] at this
    · have := run (i - k) k (fun j h1 h2 => one j (by omega) (.inr ⟨h1, by omega⟩))
      rw [show k + (i - k) = i by omega] at this; exact this.symm
  -- the operands
  have hops : ∀ t q', t ∈ opTmps o → look (T i).G t = some q' → RepAt w S m a t q' := fun t q' ht hq' => Inv.reads hT hgd hI.xs hI.closed hsl hi hnl hrd (opTmps_looks ht) hq'
  unfold wpOpIn
  simp only [hi, hw]
  cases g with
  | false =>
    simp only [Bool.false_eq_true, if_false]
    have hne : (kdAt ks i).isE = false := by
      rcases hs.grd with ⟨_, h2, _⟩ | ⟨j, b, d, h1, _⟩
      · cases h2
      · cases he : kdAt ks i with
        | e W => exact absurd (hs.eff W he).1 (by simp)
        | _ => rfl
    have hq : ∀ w S m, Rep w S m undef q := fun w S m => by
      rcases hs.grd with ⟨_, h2, _⟩ | ⟨j, b, d, h1, h2, h3, h5⟩
      · cases h2
      · rw [h5]; exact .opt _ _ _ (fun h => by cases h) (fun _ => rfl)
    refine ⟨fun _ _ => trivial, ?_⟩
    refine hK _ _ ⟨by rw [put_defers]; exact hI.defers, by rw [put_size]; exact hI.size, by rw [setSize]; exact hI.xs, hcl', S, m, k, hkn, fun j hj hje => ?_, hmem, SlotInv.put hgd (Le.refl _ _ _) hI.xs hI.closed hsl hi hnl hI.size hs (hq _ _ _)⟩
    rw [hset]
    refine ⟨fun h => ?_, fun h => .inr ((hk j hj hje).2 h)⟩
    rcases h with rfl | h
    · rw [hne] at hje; cases hje
    · exact (hk j hj hje).1 h
  | true =>
    simp only [if_true]
    have hqp : ∀ w S m v, Rep w S m v p → Rep w S m v q := fun w S m v hp => by
      rcases hs.grd with ⟨_, _, h3⟩ | ⟨_, _, _, _, _, _, h5⟩
      · rw [h3]; exact hp
      · rw [h5]; exact .opt _ _ _ (fun _ => hp) (fun h => by cases h)
    cases hkd : kdAt ks i with
    | p =>
      refine (hs.pure hkd (T k).H (T k).nx).run C S m a w hmem rfl hops K Q fun v w' S' m' hmem' hle hv => ?_
      refine hK _ _ ⟨by rw [put_defers]; exact hI.defers, by rw [put_size]; exact hI.size, by rw [setSize]; exact hI.xs, hcl', S', m', k, hkn, fun j hj hje => ?_, hmem', SlotInv.put hgd hle hI.xs hI.closed hsl hi hnl hI.size hs (hqp _ _ _ _ hv)⟩
      rw [hset]
      refine ⟨fun h => ?_, fun h => .inr ((hk j hj hje).2 h)⟩
      rcases h with rfl | h
      · rw [hkd] at hje; cases hje
      · exact (hk j hj hje).1 h
    | l F =>
      refine (hs.load F hkd (T k).H (T k).nx (hread F hkd)).run C S m a w hmem rfl hops K Q fun v w' S' m' hmem' hle hv => ?_
      refine hK _ _ ⟨by rw [put_defers]; exact hI.defers, by rw [put_size]; exact hI.size, by rw [setSize]; exact hI.xs, hcl', S', m', k, hkn, fun j hj hje => ?_, hmem', SlotInv.put hgd hle hI.xs hI.closed hsl hi hnl hI.size hs (hqp _ _ _ _ hv)⟩
      rw [hset]
      refine ⟨fun h => ?_, fun h => .inr ((hk j hj hje).2 h)⟩
      rcases h with rfl | h
      · rw [hkd] at hje; cases hje
      · exact (hk j hj hje).1 h
    | e W =>
      obtain ⟨hh1, hh2⟩ := hheap (by rw [hkd]; rfl)
      have hm2 := hmem
      rw [hh1, hh2] at hm2
      refine (hs.eff W hkd).2.2.run C S m a w hm2 rfl hops K Q fun v w' S' m' hmem' hle hv => ?_
      refine hK _ _ ⟨by rw [put_defers]; exact hI.defers, by rw [put_size]; exact hI.size, by rw [setSize]; exact hI.xs, hcl', S', m', i + 1, by omega, fun j hj hje => ?_, hmem', SlotInv.put hgd hle hI.xs hI.closed hsl hi hnl hI.size hs (hqp _ _ _ _ hv)⟩
      rw [hset]
      have h1 := hsame (by rw [hkd]; rfl) j hj hje
      have h2 := hk j hj hje
      constructor
      · rintro (h | h)
        · omega
        · have := h1.1 (h2.1 h); omega
      · intro h
        by_cases hji : j = i
        · exact .inl hji
        · exact .inr (h2.2 (h1.2 (by omega)))

theorem Inv.done {T : Nat → St} (hT : Trace P ops ks T) (hgd : Good ops ks N) {C : Cx} {X : Array Bool} {a : Act} {w : World} (hI : Inv ops ks N T C X a w) (hr : Region.ready .any ops X = []) :
    Rel C N (T ops.size).G (T ops.size).H (T ops.size).nx a w := by
  have hall := all_listed hgd hI.xs hr
  obtain ⟨S, m, k, hkn, hk, hmem, hsl⟩ := hI.mem
  have hh := hT.heap k ops.size hkn (Nat.le_refl _) (fun j h1 h2 => by
    cases he : (kdAt ks j).isE with
    | false => rfl
    | true => have := (hk j h2 he).1 (hall j h2); omega)
  refine ⟨hI.defers, hI.size, S, m, by rw [hh.1, hh.2]; exact hmem, fun t q hq => ?_⟩
  rcases last_writer ops t ops.size with h | ⟨J, h1, h2, h3⟩
  · refine (hsl t).1 (fun j hj hd => ?_) q ?_
    · rcases Nat.lt_or_ge j ops.size with h' | h'
      · exact h j h' hd
      · have : j ≥ X.size := by rw [hI.xs]; exact h'
        simp [Array.getD, Nat.not_lt.2 this] at hj
    · rw [← hT.look t 0 ops.size (Nat.zero_le _) (Nat.le_refl _) (fun k _ hk => h k hk)]; exact hq
  · refine (hsl t).2 J (hall J h1) h2 (fun j hj hd => ?_) q ?_
    · have hjn : j < ops.size := by
        rcases Nat.lt_or_ge j ops.size with h' | h'
        · exact h'
        · have : j ≥ X.size := by rw [hI.xs]; exact h'
          simp [Array.getD, Nat.not_lt.2 this] at hj
      rcases Nat.lt_or_ge J j with h | h
      · exact absurd hd (h3 j h hjn)
      · exact h
    · rw [← hT.look t (J + 1) ops.size (by omega) (Nat.le_refl _) (fun k hk1 hk2 => h3 k (by omega) hk2)]; exact hq

theorem Inv.any {T : Nat → St} (hT : Trace P ops ks T) (hgd : Good ops ks N) {C : Cx} {Q : Exit → Act → World → Prop}
    (hQ : ∀ a w, Rel C N (T ops.size).G (T ops.size).H (T ops.size).nx a w → Q .normal a w) : ∀ (fuel : Nat) (X : Array Bool) (a : Act) (w : World), (X.toList.filter (!·)).length ≤ fuel →
      Inv ops ks N T C X a w → wpAnyIn (FM r) 0 P .any ops Q fuel X a w
  | 0, X, a, w, hf, hI => by
    have hnil : Region.ready .any ops X = [] := by
      rw [List.eq_nil_iff_forall_not_mem]
      intro i hi
      obtain ⟨h1, o, ho, _⟩ := mem_ready.1 hi
      have hin : i < X.size := by rw [hI.xs]; exact (Array.getElem?_eq_some_iff.1 ho).1
      have hx : X[i] = false := by simpa [Array.getD, hin] using h1
      have hmem : X[i] ∈ X.toList.filter (!·) := List.mem_filter.2 ⟨by simp, by simp [hx]⟩
      have := List.length_pos_of_mem hmem
      omega
    exact ⟨hnil, hQ _ _ (hI.done hT hgd hnil)⟩
  | fuel + 1, X, a, w, hf, hI => by
    refine ⟨fun hnil => hQ _ _ (hI.done hT hgd hnil), fun i hi => hI.step hT hgd hi fun a' w' hI' => Inv.any hT hgd hQ fuel _ a' w' ?_ hI'⟩
    obtain ⟨h1, o, ho, _⟩ := mem_ready.1 hi
    have hin : i < X.size := by rw [hI.xs]; exact (Array.getElem?_eq_some_iff.1 ho).1
    have hx : X.toList[i]'(by simpa using hin) = false := by simpa [Array.getD, hin] using h1
    have hlist : (X.setIfInBounds i true).toList = X.toList.set i true := by simp
    rw [hlist]
    have hcount : ∀ (l : List Bool) (i : Nat) (h : i < l.length), l[i] = false → ((l.set i true).filter (!·)).length + 1 ≤ (l.filter (!·)).length := by
      intro l
      induction l with
      | nil => intro i h; simp at h
      | cons b l ih =>
        intro i h hb
        cases i with
        | zero => simp at hb; subst hb; simp
        | succ i =>
          simp only [List.set_cons_succ, List.filter_cons]
          have := ih i (by simpa using h) (by simpa using hb)
          cases b <;> simp <;> omega
    have := hcount X.toList i (by simpa using hin) hx
    omega

/-- A REGION THAT DRAWS: the lexical run serves every order. -/
theorem draw_region {G : Env} {H : Hp} {nx : Nat} {l : List Oper} {G' : Env} {H' : Hp} {nx' : Nat} {C : Cx} {Q : Exit → Act → World → Prop} {id : Nat} (hm : P.follows .mixedOrders = true)
    (hd : Der P l.toArray l G H nx ks G' H' nx') (hok : regOK l.toArray ks N = true) (hQ : Next C N G' H' nx' (Q .normal)) : Next C N G H nx ((Code.region id l.toArray true).wpM r P Q) := by
  intro a w hR
  obtain ⟨hlen, T, h0, hn, hT0⟩ := hd.trace
  have hgd := regOK_spec hok
  have hT : Trace P l.toArray ks T := fun i o ho => by
    have hil : l[i]? = some o := by simpa using ho
    have hlt : i < ks.length := by rw [hlen]; exact (List.getElem?_eq_some_iff.1 hil).1
    exact hT0 i o _ hil (by simp [kdAt, hlt])
  refine wpIn_region_any hm (Inv.any (T := T) (C := C) hT hgd (fun a w hR => hQ a w ?_) _ _ _ _ ?_ ?_)
  · have : (l.toArray).size = l.length := by simp
    rw [this, hn] at hR
    exact hR
  · simp
  · obtain ⟨S, m, hmem, hslots⟩ := hR.mem
    have hfalse : ∀ i, (Array.replicate (l.toArray).size false).getD i false = false := fun i => by
      by_cases h : i < l.length <;> simp [Array.getD, h]
    refine ⟨hR.defers, hR.size, by simp, fun i o e hi => (by rw [hfalse] at hi; cases hi), S, m, 0, Nat.zero_le _, fun i _ _ => (by rw [hfalse]; simp), (by rw [h0]; exact hmem.drew), fun t => ⟨fun _ q hq => ?_, fun i hi => (by rw [hfalse] at hi; cases hi)⟩⟩
    rw [h0] at hq
    have hle : Le S m w S m { w with drawn := w.drawn + 1 } := ⟨fun _ h => h, fun _ _ => rfl, fun _ _ h => h, fun _ _ h => h⟩
    exact (hslots t q hq).mono hle
end

def dstsOK (l : List Oper) (N : Nat) : Bool := l.all fun o => match o.dst with | some d => decide (d < N) | none => true

theorem der_list {r : Option Nat} {P : Program} {ops : Array Oper} {N : Nat} {C : Cx} {Q : Exit → Act → World → Prop} {l : List Oper} {G : Env} {H : Hp} {nx : Nat} {ks : List Kd} {G' : Env} {H' : Hp} {nx' : Nat}
    (hd : Der P ops l G H nx ks G' H' nx') : dstsOK l N = true → Next C N G' H' nx' (Q .normal) → ∀ a w, Rel C N G H nx a w → wpListIn (FM r) 0 P ops Q l a w := by
  have putRel : ∀ {G : Env} {H H' : Hp} {nx nx' : Nat} {a : Act} {w w' : World} {S S' : Nat → Prop} {m m' : Ids} {o : Oper} {v : Value} {q : PV}, a.defers = C.df → a.tmps.size = N → (∀ d, o.dst = some d → d < N) →
      Mem C H' nx' S' m' w' → Le S m w S' m' w' → (∀ t q, look G t = some q → RepAt w S m a t q) → Rep w' S' m' v q → Rel C N (gput G o.dst q) H' nx' (a.put o.dst v) w' := by
    intro G H H' nx nx' a w w' S S' m m' o v q h1 h2 hN h3 h4 h5 h6
    refine ⟨by rw [put_defers]; exact h1, by rw [put_size]; exact h2, S', m', h3, fun t q' hq' => ?_⟩
    rw [look_gput] at hq'
    by_cases hd : o.dst = some t
    · rw [if_pos hd] at hq'; cases hq'
      rw [hd]
      exact ⟨v, put_self (by rw [h2]; exact hN t hd), h6⟩
    · rw [if_neg hd] at hq'
      obtain ⟨u, hu, hr⟩ := h5 t q' hq'
      exact ⟨u, (put_at hd).trans hu, hr.mono h4⟩
  have hdst : ∀ {o : Oper} {rest : List Oper}, dstsOK (o :: rest) N = true → (∀ d, o.dst = some d → d < N) ∧ dstsOK rest N = true := by
    intro o rest h
    simp only [dstsOK, List.all_cons, Bool.and_eq_true] at h
    exact ⟨fun d hd => by have := h.1; rw [hd] at this; simpa using this, h.2⟩
  induction hd with
  | nil => exact fun _ hQ a w hR => hQ a w hR
  | @pure o rest G H nx p ks G' H' nx' hg h tl ih =>
    intro hN hQ a w hR
    obtain ⟨S, m, hmem, hsl⟩ := hR.mem
    refine wpListIn_plain hg fun K hK => (h H nx).run C S m a w hmem rfl (fun t q _ hq => hsl t q hq) K Q fun v w' S' m' hm' hle hv => hK _ _ (ih (hdst hN).2 hQ _ _ (putRel (H := H) (nx := nx) hR.defers hR.size (hdst hN).1 hm' hle hsl hv))
  | @load o rest G H nx p ks G' H' nx' F hg h tl ih =>
    intro hN hQ a w hR
    obtain ⟨S, m, hmem, hsl⟩ := hR.mem
    refine wpListIn_plain hg fun K hK => (h H nx fun _ _ => rfl).run C S m a w hmem rfl (fun t q _ hq => hsl t q hq) K Q fun v w' S' m' hm' hle hv => hK _ _ (ih (hdst hN).2 hQ _ _ (putRel (H := H) (nx := nx) hR.defers hR.size (hdst hN).1 hm' hle hsl hv))
  | @eff o rest G H nx p ks H1 nx1 G' H' nx' hg h W hW tl ih =>
    intro hN hQ a w hR
    obtain ⟨S, m, hmem, hsl⟩ := hR.mem
    refine wpListIn_plain hg fun K hK => h.run C S m a w hmem rfl (fun t q _ hq => hsl t q hq) K Q fun v w' S' m' hm' hle hv => hK _ _ (ih (hdst hN).2 hQ _ _ (putRel (H := H) (nx := nx) hR.defers hR.size (hdst hN).1 hm' hle hsl hv))
  | @effG o rest G H nx p ks H1 nx1 G' H' nx' j b g d hg hd hl hgt h W hW tl ih =>
    intro hN hQ a w hR
    obtain ⟨S, m, hmem, hsl⟩ := hR.mem
    have hw : Region.wanted o (yielded ops a.tmps) = g := by simp only [Region.wanted, hg]; exact hl.yield hd fun q hq => hsl _ q hq
    refine wpListIn_step fun K hK => ?_
    rw [hw, if_pos hgt]
    refine h.run C S m a w hmem hgt (fun t q _ hq => hsl t q hq) K Q fun v w' S' m' hm' hle hv => hK _ _ (ih (hdst hN).2 hQ _ _ (putRel (H := H) (nx := nx) hR.defers hR.size (hdst hN).1 hm' hle hsl (.opt _ _ _ (fun _ => hv) (fun h => by rw [hgt] at h; cases h))))
  | @pureG o rest G H nx p ks G' H' nx' j b g d hg hd hl h tl ih =>
    intro hN hQ a w hR
    obtain ⟨S, m, hmem, hsl⟩ := hR.mem
    have hw : Region.wanted o (yielded ops a.tmps) = g := by simp only [Region.wanted, hg]; exact hl.yield hd fun q hq => hsl _ q hq
    refine wpListIn_step fun K hK => ?_
    rw [hw]
    cases hgb : g with
    | true =>
      rw [if_pos rfl]
      refine (h H nx).run C S m a w hmem hgb (fun t q _ hq => hsl t q hq) K Q fun v w' S' m' hm' hle hv => hK _ _ (ih (hdst hN).2 hQ _ _ (putRel (H := H) (nx := nx) hR.defers hR.size (hdst hN).1 hm' hle hsl (.opt _ _ _ (fun _ => hv) (fun h => by rw [hgb] at h; cases h))))
    | false =>
      rw [if_neg (by simp)]
      exact ⟨fun _ _ => trivial, hK _ _ (ih (hdst hN).2 hQ _ _ (putRel (H := H) (nx := nx) hR.defers hR.size (hdst hN).1 hmem (Le.refl _ _ _) hsl (.opt _ _ _ (fun h => by rw [hgb] at h; cases h) (fun _ => rfl))))⟩
  | @loadG o rest G H nx p ks G' H' nx' j b g d hg hd hl F h tl ih =>
    intro hN hQ a w hR
    obtain ⟨S, m, hmem, hsl⟩ := hR.mem
    have hw : Region.wanted o (yielded ops a.tmps) = g := by simp only [Region.wanted, hg]; exact hl.yield hd fun q hq => hsl _ q hq
    refine wpListIn_step fun K hK => ?_
    rw [hw]
    cases hgb : g with
    | true =>
      rw [if_pos rfl]
      refine (h H nx fun _ _ => rfl).run C S m a w hmem hgb (fun t q _ hq => hsl t q hq) K Q fun v w' S' m' hm' hle hv => hK _ _ (ih (hdst hN).2 hQ _ _ (putRel (H := H) (nx := nx) hR.defers hR.size (hdst hN).1 hm' hle hsl (.opt _ _ _ (fun _ => hv) (fun h => by rw [hgb] at h; cases h))))
    | false =>
      rw [if_neg (by simp)]
      exact ⟨fun _ _ => trivial, hK _ _ (ih (hdst hN).2 hQ _ _ (putRel (H := H) (nx := nx) hR.defers hR.size (hdst hN).1 hmem (Le.refl _ _ _) hsl (.opt _ _ _ (fun h => by rw [hgb] at h; cases h) (fun _ => rfl))))⟩

/-- A REGION IN ITS TEXT'S ORDER. -/
theorem plain_region {r : Option Nat} {P : Program} {N : Nat} {ks : List Kd} {G : Env} {H : Hp} {nx : Nat} {l : List Oper} {G' : Env} {H' : Hp} {nx' : Nat} {C : Cx} {Q : Exit → Act → World → Prop} {id : Nat}
    (hd : Der P l.toArray l G H nx ks G' H' nx') (hok : dstsOK l N = true) (hQ : Next C N G' H' nx' (Q .normal)) : Next C N G H nx ((Code.region id l.toArray false).wpM r P Q) :=
  fun a w hR => wpIn_region_lit (der_list hd hok hQ a w hR)

end Go.RT
/- The engine, part 4: renaming and weakening of states; control; contracts; a function's entry and exit. -/
namespace Go.RT

/-! ## renaming -/
def renI (L : List Nat) (i : Nat) : Nat := L.getD i 0

mutual
def renP (L : List Nat) : PV → PV
  | .fz f => .fz f
  | .sl id sz lo len => .sl (renI L id) sz lo len
  | .ptr id sz row col => .ptr (renI L id) sz row col
  | .agg cs => .agg (renPs L cs)
  | .tup vs => .tup (renPs L vs)
  | .clo f a b => .clo f (renPs L a) (renPs L b)
  | .mp id => .mp (renI L id)
  | .opt g p => .opt g (renP L p)
  | .any => .any
  | .ab c => .ab c
  | .wc c p => .wc c (renP L p)
  | .own sz rows => .own sz rows
  | .yl id tm ps => .yl (renI L id) tm (renPs L ps)
def renPs (L : List Nat) : List PV → List PV
  | [] => []
  | p :: r => renP L p :: renPs L r
end
mutual
def ltP (n : Nat) : PV → Bool
  | .fz _ => true
  | .sl id _ _ _ => Nat.blt id n
  | .ptr id _ _ _ => Nat.blt id n
  | .agg cs => ltPs n cs
  | .tup vs => ltPs n vs
  | .clo _ a b => ltPs n a && ltPs n b
  | .mp id => Nat.blt id n
  | .opt _ p => ltP n p
  | .any => true
  | .ab _ => true
  | .wc _ p => ltP n p
  | .own _ _ => true
  | .yl id _ ps => Nat.blt id n && ltPs n ps
def ltPs (n : Nat) : List PV → Bool
  | [] => true
  | p :: r => ltP n p && ltPs n r
end

theorem renPs_eq (L : List Nat) : ∀ ps, renPs L ps = ps.map (renP L)
  | [] => rfl
  | p :: r => by simp [renPs, renPs_eq L r]
theorem ltPs_mem {n : Nat} : ∀ {ps : List PV}, ltPs n ps = true → ∀ p ∈ ps, ltP n p = true
  | [], _, p, h => by simp at h
  | q :: r, hb, p, h => by
    simp only [ltPs, Bool.and_eq_true] at hb
    rcases List.mem_cons.1 h with rfl | h
    · exact hb.1
    · exact ltPs_mem hb.2 p h

def renM (L : List Nat) (m : Ids) : Ids := fun i => if i < L.length then m (renI L i) else none

theorem blt_of {a b : Nat} (h : Nat.blt a b = true) : a < b := by simpa [Nat.blt_eq] using h

theorem Rep.unren {w : World} {S : Nat → Prop} {m : Ids} {L : List Nat} {v : Value} {q : PV} (h : Rep w S m v q) : ∀ p, q = renP L p → ltP L.length p = true → Rep w S (renM L m) v p := by
  have hm : ∀ id x, Nat.blt id L.length = true → m (renI L id) = some x → renM L m id = some x := fun id x hb hx => by
    have := blt_of hb
    simp [renM, this, hx]
  induction h with
  | fz v f h => intro p hp hb; cases p <;> simp only [renP] at hp <;> first | (cases hp; exact .fz _ _ h) | cases hp
  | sl0 id sz h => intro p hp hb; cases p <;> simp only [renP] at hp <;> first | (cases hp; exact .sl0 _ _ (hm _ _ hb h)) | cases hp
  | sl id sz lo len b cap h hr hc hmx => intro p hp hb; cases p <;> simp only [renP] at hp <;> first | (cases hp; exact .sl _ _ _ _ _ _ (hm _ _ hb h) hr hc hmx) | cases hp
  | ptr id sz row col b h => intro p hp hb; cases p <;> simp only [renP] at hp <;> first | (cases hp; exact .ptr _ _ _ _ _ (hm _ _ hb h)) | cases hp
  | mp id b h => intro p hp hb; cases p <;> simp only [renP] at hp <;> first | (cases hp; exact .mp _ _ (hm _ _ hb h)) | cases hp
  | agg cs fs hl _ h1 ih =>
    intro p hp hb
    cases p <;> simp only [renP] at hp <;> first | cases hp | skip
    rename_i cs'
    simp only [ltP] at hb
    simp only [renPs_eq] at hl ih
    exact .agg _ _ (by simpa using hl) (fun i c f hc hf => ih i c (renP L f) hc (by simp [hf]) f rfl (ltPs_mem hb f (List.mem_of_getElem? hf))) h1
  | tup cs fs hl _ ih =>
    intro p hp hb
    cases p <;> simp only [renP] at hp <;> first | cases hp | skip
    rename_i cs'
    simp only [ltP] at hb
    simp only [renPs_eq] at hl ih
    exact .tup _ _ (by simpa using hl) fun i c f hc hf => ih i c (renP L f) hc (by simp [hf]) f rfl (ltPs_mem hb f (List.mem_of_getElem? hf))
  | clo f as0 cs ps qs h1 h2 _ _ ih1 ih2 =>
    intro p hp hb
    cases p <;> simp only [renP] at hp <;> first | cases hp | skip
    simp only [ltP, Bool.and_eq_true] at hb
    simp only [renPs_eq] at h1 h2 ih1 ih2
    exact .clo _ _ _ _ _ (by simpa using h1) (by simpa using h2) (fun i c f hc hf => ih1 i c (renP L f) hc (by simp [hf]) f rfl (ltPs_mem hb.1 f (List.mem_of_getElem? hf)))
      (fun i c f hc hf => ih2 i c (renP L f) hc (by simp [hf]) f rfl (ltPs_mem hb.2 f (List.mem_of_getElem? hf)))
  | opt v g p _ hu ih =>
    intro p' hp hb
    cases p' <;> simp only [renP] at hp <;> first | cases hp | skip
    exact .opt _ _ _ (fun hg => ih hg _ rfl hb) hu
  | any v =>
    intro p' hp hb
    cases p' <;> simp only [renP] at hp <;> first | cases hp | skip
    exact .any v
  | ab b c h =>
    intro p' hp hb
    cases p' <;> simp only [renP] at hp <;> first | cases hp | skip
    exact .ab b _ h
  | wc ad len cap p _ ih =>
    intro p' hp hb
    cases p' <;> simp only [renP] at hp <;> first | cases hp | skip
    exact .wc _ _ _ _ (ih _ rfl hb)
  | own v sz rows =>
    intro p' hp hb
    cases p' <;> simp only [renP] at hp <;> first | cases hp | skip
    exact .own v _ _
  | yl l id tm ps h hl _ ih =>
    intro p' hp hb
    cases p' <;> simp only [renP] at hp <;> first | cases hp | skip
    simp only [ltP, Bool.and_eq_true] at hb
    simp only [renPs_eq] at hl ih
    exact .yl l _ _ _ (hm _ _ hb.1 h) (by simpa using hl) fun i c f hc hf => ih i c (renP L f) hc (by simp [hf]) f rfl (ltPs_mem hb.2 f (List.mem_of_getElem? hf))

theorem Rep.fwd {w : World} {S : Nat → Prop} {m m' : Ids} {L : List Nat} (hm : ∀ i x, m i = some x → m' (renI L i) = some x) {v : Value} {p : PV} (h : Rep w S m v p) : Rep w S m' v (renP L p) := by
  induction h with
  | fz v f h => exact .fz _ _ h
  | sl0 id sz h => exact .sl0 _ _ (hm _ _ h)
  | sl id sz lo len b cap h hr hc hmx => exact .sl _ _ _ _ _ _ (hm _ _ h) hr hc hmx
  | ptr id sz row col b h => exact .ptr _ _ _ _ _ (hm _ _ h)
  | mp id b h => exact .mp _ _ (hm _ _ h)
  | agg cs fs hl _ h1 ih =>
    simp only [renP, renPs_eq]
    refine .agg _ _ (by simpa using hl) (fun i c f hc hf => ?_) h1
    rw [List.getElem?_map] at hf
    obtain ⟨f0, h0, rfl⟩ := Option.map_eq_some_iff.1 hf
    exact ih i c f0 hc h0
  | tup cs fs hl _ ih =>
    simp only [renP, renPs_eq]
    refine .tup _ _ (by simpa using hl) fun i c f hc hf => ?_
    rw [List.getElem?_map] at hf
    obtain ⟨f0, h0, rfl⟩ := Option.map_eq_some_iff.1 hf
    exact ih i c f0 hc h0
  | clo f as0 cs ps qs h1 h2 _ _ ih1 ih2 =>
    simp only [renP, renPs_eq]
    refine .clo _ _ _ _ _ (by simpa using h1) (by simpa using h2) (fun i c f hc hf => ?_) (fun i c f hc hf => ?_)
    · rw [List.getElem?_map] at hf
      obtain ⟨f0, h0, rfl⟩ := Option.map_eq_some_iff.1 hf
      exact ih1 i c f0 hc h0
    · rw [List.getElem?_map] at hf
      obtain ⟨f0, h0, rfl⟩ := Option.map_eq_some_iff.1 hf
      exact ih2 i c f0 hc h0
  | opt v g p _ hu ih => exact .opt _ _ _ (fun hg => ih hg) hu
  | any v => exact .any v
  | ab b c h => exact .ab b c h
  | wc ad len cap p _ ih => exact .wc _ _ _ _ ih
  | own v sz rows => exact .own v sz rows
  | yl l id tm ps h hl _ ih =>
    simp only [renP, renPs_eq]
    refine .yl l _ tm _ (hm _ _ h) (by simpa using hl) (fun i c f hc hf => ?_)
    rw [List.getElem?_map] at hf
    obtain ⟨f0, h0, rfl⟩ := Option.map_eq_some_iff.1 hf
    exact ih i c f0 hc h0

def renO (L : List Nat) : Ob → Ob
  | .flat sz rows => .flat sz rows
  | .refs sz rows => .refs sz (rows.map (renPs L))
  | .map ks vs => .map ks vs
  | .raw x => .raw x
  | .mapc ks vs arr cl b => .mapc ks vs arr cl b
def ltO (n : Nat) : Ob → Prop
  | .flat _ _ => True
  | .map _ _ => True
  | .raw _ => True
  | .mapc _ _ _ _ _ => True
  | .refs _ rows => ∀ r ∈ rows, ltPs n r = true

theorem RowsRep.of_map {α β : Type} {R : Value → β → Prop} {R' : Value → α → Prop} (f : α → β) {c : Array Value} {sz : Nat} {rows : List (List α)} (h : ∀ v p, (∃ r ∈ rows, p ∈ r) → R v (f p) → R' v p) (hr : RowsRep R c sz (rows.map (List.map f))) : RowsRep R' c sz rows := by
  obtain ⟨h1, h2, h3⟩ := hr
  refine ⟨by simpa using h1, fun r hrm => by have := h2 (r.map f) (List.mem_map.2 ⟨r, hrm, rfl⟩); simpa using this, fun i j r p hi hj => ?_⟩
  obtain ⟨u, hu, ho, hp⟩ := h3 i j (r.map f) (f p) (by simp [hi]) (by simp [hj])
  exact ⟨u, hu, ho, h _ _ ⟨r, List.mem_of_getElem? hi, List.mem_of_getElem? hj⟩ hp⟩
theorem RowsRep.map {α β : Type} {R : Value → β → Prop} {R' : Value → α → Prop} (f : α → β) {c : Array Value} {sz : Nat} {rows : List (List α)} (h : ∀ v p, R' v p → R v (f p)) (hr : RowsRep R' c sz rows) : RowsRep R c sz (rows.map (List.map f)) := by
  obtain ⟨h1, h2, h3⟩ := hr
  refine ⟨by simpa using h1, fun r hrm => ?_, fun i j r p hi hj => ?_⟩
  · obtain ⟨r0, hr0, rfl⟩ := List.mem_map.1 hrm
    simpa using h2 r0 hr0
  · rw [List.getElem?_map] at hi
    obtain ⟨r0, h0, rfl⟩ := Option.map_eq_some_iff.1 hi
    rw [List.getElem?_map] at hj
    obtain ⟨p0, hp0, rfl⟩ := Option.map_eq_some_iff.1 hj
    obtain ⟨u, hu, ho, hp⟩ := h3 i j r0 p0 h0 hp0
    exact ⟨u, hu, ho, h _ _ hp⟩

theorem ORep.unren {w : World} {S : Nat → Prop} {m : Ids} {L : List Nat} {id : Nat} {o : Ob} (hid : id < L.length) (hb : ltO L.length o) (h : ORep w S m (renI L id) (renO L o)) : ORep w S (renM L m) id o := by
  have hm : ∀ x, m (renI L id) = some x → renM L m id = some x := fun x hx => by simp [renM, hid, hx]
  cases o with
  | flat sz rows =>
    rcases h with ⟨h1, h2⟩ | ⟨b, c, e, h1, h2, h3⟩
    · exact .inl ⟨hm _ h1, h2⟩
    · exact .inr ⟨b, c, e, hm _ h1, h2, h3⟩
  | refs sz rows =>
    rcases h with ⟨h1, h2⟩ | ⟨b, c, e, h1, h2, h3⟩
    · exact .inl ⟨hm _ h1, by simpa using h2⟩
    · refine .inr ⟨b, c, e, hm _ h1, h2, ?_⟩
      have he : rows.map (renPs L) = rows.map (List.map (renP L)) := List.map_congr_left fun r _ => renPs_eq L r
      rw [he] at h3
      exact h3.of_map _ fun v p ⟨r, hr, hp⟩ h => h.unren p rfl (ltPs_mem (hb r hr) p hp)
  | map ks vs =>
    obtain ⟨b, arr, clock, h1, h2⟩ := h
    exact ⟨b, arr, clock, hm _ h1, h2⟩
  | raw x =>
    obtain ⟨b, h1, h2⟩ := h
    exact ⟨b, hm _ h1, h2⟩
  | mapc ks vs arr cl b => exact ⟨hm _ h.1, h.2⟩

theorem ORep.fwd {w : World} {S : Nat → Prop} {m m' : Ids} {L : List Nat} (hm : ∀ i x, m i = some x → m' (renI L i) = some x) {id : Nat} {o : Ob} (h : ORep w S m id o) : ORep w S m' (renI L id) (renO L o) := by
  cases o with
  | flat sz rows =>
    rcases h with ⟨h1, h2⟩ | ⟨b, c, e, h1, h2, h3⟩
    · exact .inl ⟨hm _ _ h1, h2⟩
    · exact .inr ⟨b, c, e, hm _ _ h1, h2, h3⟩
  | refs sz rows =>
    rcases h with ⟨h1, h2⟩ | ⟨b, c, e, h1, h2, h3⟩
    · exact .inl ⟨hm _ _ h1, by simp [h2]⟩
    · refine .inr ⟨b, c, e, hm _ _ h1, h2, ?_⟩
      have he : rows.map (renPs L) = rows.map (List.map (renP L)) := List.map_congr_left fun r _ => renPs_eq L r
      rw [he]
      exact h3.map _ fun v p h => h.fwd hm
  | map ks vs =>
    obtain ⟨b, arr, clock, h1, h2⟩ := h
    exact ⟨b, arr, clock, hm _ _ h1, h2⟩
  | raw x =>
    obtain ⟨b, h1, h2⟩ := h
    exact ⟨b, hm _ _ h1, h2⟩
  | mapc ks vs arr cl b => exact ⟨hm _ _ h.1, h.2⟩

/-! ## weakening: new names 0 .. for the objects in L; the objects in F are given up and read as0 frozen from then on -/

/-- under the heap H, with the objects F frozen, p reads as0 the frozen f -/
inductive AsF (H : Hp) (F : List Nat) : PV → FV → Prop where
  | fz (f : FV) : AsF H F (.fz f) f
  | sl (id sz lo len : Nat) (rows rs : List (List FV)) : F.contains id = true → hlook H id = some (.flat sz rows) → (rows.drop lo).take len = rs → rs.length = len → AsF H F (.sl id sz lo len) (.vals sz rs)
  | slr (id sz lo len : Nat) (rows : List (List PV)) (rs : List (List FV)) : F.contains id = true → hlook H id = some (.refs sz rows) → lo + len ≤ rows.length → rs.length = len →
      (∀ (i j : Nat) (r : List PV) (f : List FV) (p : PV) (q : FV), rows[lo + i]? = some r → rs[i]? = some f → r[j]? = some p → f[j]? = some q → AsF H F p q) →
      (∀ (i : Nat) (r : List PV) (f : List FV), rows[lo + i]? = some r → rs[i]? = some f → r.length = f.length) → AsF H F (.sl id sz lo len) (.vals sz rs)
  | agg (ps : List PV) (fs : List FV) : ps.length = fs.length → (∀ (i : Nat) (p : PV) (f : FV), ps[i]? = some p → fs[i]? = some f → AsF H F p f) → AsF H F (.agg ps) (.agg fs)
  | tup (ps : List PV) (fs : List FV) : ps.length = fs.length → (∀ (i : Nat) (p : PV) (f : FV), ps[i]? = some p → fs[i]? = some f → AsF H F p f) → AsF H F (.tup ps) (.tup fs)
  | nil (sz : Nat) : AsF H F (.fz (.lit (.slice none 0 0))) (.vals sz [])
  | clo (g : FuncId) (ps : List PV) (fs : List FV) : ps.length = fs.length → (∀ (i : Nat) (p : PV) (f : FV), ps[i]? = some p → fs[i]? = some f → AsF H F p f) → AsF H F (.clo g [] ps) (.clo g fs)
  | ptr (id sz row col : Nat) (rows : List (List FV)) (r fs : List FV) : F.contains id = true → hlook H id = some (.flat sz rows) → rows[row]? = some r → r.drop col = fs → AsF H F (.ptr id sz row col) (.cellp fs)
  | mp (id : Nat) (ks vs : List FV) : F.contains id = true → hlook H id = some (.map ks vs) → AsF H F (.mp id) (.mapv ks vs)

/-- frozen set with the blocks of F -/
def addF (S : Nat → Prop) (m : Ids) (F : List Nat) : Nat → Prop := fun b => S b ∨ ∃ id, F.contains id = true ∧ m id = some (some b)

theorem AsF.rep {C : Cx} {H : Hp} {nx : Nat} {S S' : Nat → Prop} {m : Ids} {w : World} (hm : Mem C H nx S m w) {F : List Nat} (hS : ∀ b, S b → S' b) (hF : ∀ id b, F.contains id = true → m id = some (some b) → S' b) {p : PV} {f : FV} (h : AsF H F p f) :
    ∀ v, Rep w S m v p → FRep w S' v f := by
  induction h with
  | fz f => intro v hv; cases hv with | fz _ _ h => exact h.mono hS fun _ _ => rfl
  | nil sz => intro v hv; cases hv with | fz _ _ h => cases h; exact .nil _ _ sz
  | clo g ps fs hl _ ih =>
    intro v hv
    cases hv with
    | clo _ as0 bs _ _ q1 q2 q3 q4 =>
      have e : as0 = #[] := by simpa using q1
      subst e
      refine .clo g bs fs (q2.trans hl) fun i c f hc hf => ?_
      have hi : i < ps.length := by rw [hl]; exact (List.getElem?_eq_some_iff.1 hf).1
      exact ih i ps[i] f (List.getElem?_eq_getElem hi) hf c (q4 i c ps[i] hc (List.getElem?_eq_getElem hi))
  | sl id sz lo len rows rs hc hl hrs hlen =>
    intro v hv
    have ho := hm.objs id _ hl
    cases hv with
    | sl0 _ _ h =>
      have : rs = [] := List.eq_nil_of_length_eq_zero (by rw [hlen])
      subst this
      exact .nil _ _ sz
    | sl _ _ _ _ b cap h hr hcap hmx =>
      rcases ho with ⟨h1, _⟩ | ⟨b', c, e, h1, h2, h3, h4, h5⟩
      · rw [h] at h1; cases h1
      · rw [h] at h1; cases h1
        have hrow : ∀ i r, rs[i]? = some r → rows[lo + i]? = some r := fun i r hi => by
          rw [← hrs, List.getElem?_take] at hi
          split at hi
          · rw [List.getElem?_drop] at hi; exact hi
          · cases hi
        have hU : ∀ i j : Nat, ∃ u, ∀ r f, rs[i]? = some r → r[j]? = some f → c[(lo + i) * sz + j]? = some u ∧ u.oneCell' = true ∧ FRep w S u f := fun i j => by
          cases hi : rs[i]? with
          | none => exact ⟨undef, fun _ _ h => by cases h⟩
          | some r =>
            cases hj : r[j]? with
            | none => exact ⟨undef, fun r' f h1 h2 => by cases h1; rw [hj] at h2; cases h2⟩
            | some f =>
              obtain ⟨u, hu, ho1, hp⟩ := h5 (lo + i) j r f (hrow i r hi) hj
              exact ⟨u, fun r' f' h1 h2 => by cases h1; rw [hj] at h2; cases h2; exact ⟨hu, ho1, hp⟩⟩
        have hU' : ∃ U : Nat → Nat → Value, ∀ i j r f, rs[i]? = some r → r[j]? = some f → c[(lo + i) * sz + j]? = some (U i j) ∧ (U i j).oneCell' = true ∧ FRep w S (U i j) f :=
          ⟨fun i j => Classical.choose (hU i j), fun i j r f h1 h2 => Classical.choose_spec (hU i j) r f h1 h2⟩
        obtain ⟨U, hU⟩ := hU'
        subst hlen
        refine .vals b (lo * sz) cap sz rs U (hF id b hc h) hcap (fun r hr => ?_) (fun i j r f h1 h2 => ?_) (fun i j r f h1 h2 => (hU i j r f h1 h2).2.2.mono hS fun _ _ => rfl)
        · obtain ⟨i, hi, he⟩ := List.getElem_of_mem hr
          exact h4 r (List.mem_of_getElem? (hrow i r (by simp [hi, he])))
        · have := (hU i j r f h1 h2).1
          refine ⟨?_, (hU i j r f h1 h2).2.1⟩
          simp only [World.cell?]
          rw [← this, show lo * sz + (i * sz + j) = (lo + i) * sz + j from by rw [Nat.add_mul]; omega]
          simp only [*]
          simp
  | slr id sz lo len rows rs hc hl hlo hlen _ hll ih =>
    intro v hv
    have ho := hm.objs id _ hl
    cases hv with
    | sl0 _ _ h =>
      have : rs = [] := List.eq_nil_of_length_eq_zero (by rw [hlen])
      subst this
      exact .nil _ _ sz
    | sl _ _ _ _ b cap h hr hcap hmx =>
      rcases ho with ⟨h1, _⟩ | ⟨b', c, e, h1, h2, h3, h4, h5⟩
      · rw [h] at h1; cases h1
      · rw [h] at h1; cases h1
        have hU : ∀ i j : Nat, ∃ u, ∀ r f, rs[i]? = some r → r[j]? = some f → c[(lo + i) * sz + j]? = some u ∧ u.oneCell' = true ∧ FRep w S' u f := fun i j => by
          cases hi : rs[i]? with
          | none => exact ⟨undef, fun _ _ h => by cases h⟩
          | some r =>
            cases hj : r[j]? with
            | none => exact ⟨undef, fun r' f h1 h2 => by cases h1; rw [hj] at h2; cases h2⟩
            | some f =>
              have hi' : i < rs.length := (List.getElem?_eq_some_iff.1 hi).1
              have hrow : rows[lo + i]? = some (rows[lo + i]'(by omega)) := by simp
              have hlr := hll i _ r hrow hi
              have hj' : j < (rows[lo + i]'(by omega)).length := by rw [hlr]; exact (List.getElem?_eq_some_iff.1 hj).1
              obtain ⟨u, hu, ho1, hp⟩ := h5 (lo + i) j _ ((rows[lo + i]'(by omega))[j]) hrow (by simp [hj'])
              exact ⟨u, fun r' f' h1 h2 => by
                cases h1; rw [hj] at h2; cases h2
                exact ⟨hu, ho1, ih i j _ r _ f hrow hi (by simp [hj']) hj u hp⟩⟩
        have hU' : ∃ U : Nat → Nat → Value, ∀ i j r f, rs[i]? = some r → r[j]? = some f → c[(lo + i) * sz + j]? = some (U i j) ∧ (U i j).oneCell' = true ∧ FRep w S' (U i j) f :=
          ⟨fun i j => Classical.choose (hU i j), fun i j r f h1 h2 => Classical.choose_spec (hU i j) r f h1 h2⟩
        obtain ⟨U, hU⟩ := hU'
        subst hlen
        refine .vals b (lo * sz) cap sz rs U (hF id b hc h) hcap (fun r hr => ?_) (fun i j r f h1 h2 => ?_) (fun i j r f h1 h2 => (hU i j r f h1 h2).2.2)
        · obtain ⟨i, hi, he⟩ := List.getElem_of_mem hr
          have hrow : rows[lo + i]? = some (rows[lo + i]'(by omega)) := by simp
          rw [← hll i _ r hrow (by simp [hi, he])]
          exact h4 _ (List.mem_of_getElem? hrow)
        · have := (hU i j r f h1 h2).1
          refine ⟨?_, (hU i j r f h1 h2).2.1⟩
          simp only [World.cell?]
          rw [← this, show lo * sz + (i * sz + j) = (lo + i) * sz + j from by rw [Nat.add_mul]; omega]
          simp only [*]
          simp
  | mp id ks vs hc hl =>
    intro v hv
    obtain ⟨b', arr, clock, h1, h2, h3, h4, h5, h6, _⟩ := hm.objs id _ hl
    cases hv with
    | mp _ b h =>
      rw [h] at h1; cases h1
      exact .mapv _ ks vs arr clock (hF id _ hc h) h2 h3 h4 (fun i e f q1 q2 => (h5 i e f q1 q2).mono hS fun _ _ => rfl) (fun i e f q1 q2 => (h6 i e f q1 q2).mono hS fun _ _ => rfl)
  | agg ps fs hl _ ih =>
    intro v hv
    cases hv with
    | agg cs _ hl' h h1 =>
      refine .agg cs fs (hl'.trans hl) (fun i c f hc hf => ?_) h1
      have hi : i < ps.length := by rw [hl]; exact (List.getElem?_eq_some_iff.1 hf).1
      exact ih i ps[i] f (by simp [hi]) hf c (h i c ps[i] hc (by simp [hi]))
  | tup ps fs hl _ ih =>
    intro v hv
    cases hv with
    | tup cs _ hl' h =>
      refine .tup cs fs (hl'.trans hl) fun i c f hc hf => ?_
      have hi : i < ps.length := by rw [hl]; exact (List.getElem?_eq_some_iff.1 hf).1
      exact ih i ps[i] f (by simp [hi]) hf c (h i c ps[i] hc (by simp [hi]))
  | ptr id sz row col rows r fs hc hl hrow hfs =>
    intro v hv
    have ho := hm.objs id _ hl
    cases hv with
    | ptr _ _ _ _ b h =>
      rcases ho with ⟨h1, _⟩ | ⟨b', c, e, h1, h2, h3, h4, h5⟩
      · rw [h] at h1; cases h1
      · rw [h] at h1; cases h1
        subst hfs
        have hU : ∀ j : Nat, ∃ u, ∀ f, (r.drop col)[j]? = some f → c[row * sz + (col + j)]? = some u ∧ u.oneCell' = true ∧ FRep w S u f := fun j => by
          cases hj : (r.drop col)[j]? with
          | none => exact ⟨undef, fun _ h => by cases h⟩
          | some f =>
            rw [List.getElem?_drop] at hj
            obtain ⟨u, hu, ho1, hp⟩ := h5 row (col + j) r f hrow hj
            exact ⟨u, fun f' h1 => by cases h1; exact ⟨hu, ho1, hp⟩⟩
        have hU' : ∃ U : Nat → Value, ∀ j f, (r.drop col)[j]? = some f → c[row * sz + (col + j)]? = some (U j) ∧ (U j).oneCell' = true ∧ FRep w S (U j) f :=
          ⟨fun j => Classical.choose (hU j), fun j f h1 => Classical.choose_spec (hU j) f h1⟩
        obtain ⟨U, hU⟩ := hU'
        refine .cellp b _ _ U (hF id b hc h) (fun j f h1 => ?_) (fun j f h1 => (hU j f h1).2.2.mono hS fun _ _ => rfl)
        have := (hU j f h1).1
        refine ⟨?_, (hU j f h1).2.1⟩
        simp only [World.cell?, h2]
        rw [← this, show row * sz + col + j = row * sz + (col + j) from by omega]
        simp only [*]
        simp

def EntV (L F : List Nat) (H : Hp) (p p' : PV) : Prop := (p = renP L p' ∧ ltP L.length p' = true) ∨ ∃ f, p' = .fz f ∧ AsF H F p f
def EntG (L F : List Nat) (H : Hp) (G : Env) : Env → Prop
  | [] => True
  | (t, p') :: r => (∃ p, look G t = some p ∧ EntV L F H p p') ∧ EntG L F H G r
/-- rows read as frozen ones -/
inductive AsR (H : Hp) (F : List Nat) : List PV → List FV → Prop where
  | nil : AsR H F [] []
  | cons (p : PV) (f : FV) (ps : List PV) (fs : List FV) : AsF H F p f → AsR H F ps fs → AsR H F (p :: ps) (f :: fs)
inductive AsRs (H : Hp) (F : List Nat) : List (List PV) → List (List FV) → Prop where
  | nil : AsRs H F [] []
  | cons (p : List PV) (f : List FV) (ps : List (List PV)) (fs : List (List FV)) : AsR H F p f → AsRs H F ps fs → AsRs H F (p :: ps) (f :: fs)
theorem AsR.get {H : Hp} {F : List Nat} {ps : List PV} {fs : List FV} (h : AsR H F ps fs) : ps.length = fs.length ∧ ∀ (i : Nat) (f : FV), fs[i]? = some f → ∃ p, ps[i]? = some p ∧ AsF H F p f := by
  induction h with
  | nil => exact ⟨rfl, fun i f h => by simp at h⟩
  | cons p f ps fs h _ ih =>
    refine ⟨by simp [ih.1], fun i g hg => ?_⟩
    cases i with
    | zero => simp at hg; subst hg; exact ⟨p, rfl, h⟩
    | succ i => exact ih.2 i g (by simpa using hg)
theorem AsRs.get {H : Hp} {F : List Nat} {ps : List (List PV)} {fs : List (List FV)} (h : AsRs H F ps fs) : ps.length = fs.length ∧ (∀ (i : Nat) (f : List FV), fs[i]? = some f → ∃ p, ps[i]? = some p ∧ AsR H F p f) := by
  induction h with
  | nil => exact ⟨rfl, fun i f h => by simp at h⟩
  | cons p f ps fs h _ ih =>
    refine ⟨by simp [ih.1], fun i g hg => ?_⟩
    cases i with
    | zero => simp at hg; subst hg; exact ⟨p, rfl, h⟩
    | succ i => exact ih.2 i g (by simpa using hg)
inductive EntR (L F : List Nat) (H : Hp) : List PV → List PV → Prop where
  | nil : EntR L F H [] []
  | cons (p q : PV) (ps qs : List PV) : EntV L F H p q → EntR L F H ps qs → EntR L F H (p :: ps) (q :: qs)
inductive EntRs (L F : List Nat) (H : Hp) : List (List PV) → List (List PV) → Prop where
  | nil : EntRs L F H [] []
  | cons (p q : List PV) (ps qs : List (List PV)) : EntR L F H p q → EntRs L F H ps qs → EntRs L F H (p :: ps) (q :: qs)
theorem EntR.get {L F : List Nat} {H : Hp} {ps qs : List PV} (h : EntR L F H ps qs) : ps.length = qs.length ∧ ∀ (i : Nat) (f : PV), qs[i]? = some f → ∃ p, ps[i]? = some p ∧ EntV L F H p f := by
  induction h with
  | nil => exact ⟨rfl, fun i f h => by simp at h⟩
  | cons p f ps fs h _ ih =>
    refine ⟨by simp [ih.1], fun i g hg => ?_⟩
    cases i with
    | zero => simp at hg; subst hg; exact ⟨p, rfl, h⟩
    | succ i => exact ih.2 i g (by simpa using hg)
theorem EntRs.get {L F : List Nat} {H : Hp} {ps qs : List (List PV)} (h : EntRs L F H ps qs) : ps.length = qs.length ∧ ∀ (i : Nat) (f : List PV), qs[i]? = some f → ∃ p, ps[i]? = some p ∧ EntR L F H p f := by
  induction h with
  | nil => exact ⟨rfl, fun i f h => by simp at h⟩
  | cons p f ps fs h _ ih =>
    refine ⟨by simp [ih.1], fun i g hg => ?_⟩
    cases i with
    | zero => simp at hg; subst hg; exact ⟨p, rfl, h⟩
    | succ i => exact ih.2 i g (by simpa using hg)
/-- an object renamed; or one whose slices in F are frozen with it -/
inductive EntO (L F : List Nat) (H : Hp) (i : Nat) : Ob → Prop where
  | same (o : Ob) : hlook H i = some (renO L o) → ltO L.length o → EntO L F H i o
  | flat (sz : Nat) (rows : List (List PV)) (fr : List (List FV)) : hlook H i = some (.refs sz rows) → AsRs H F rows fr → EntO L F H i (.flat sz fr)
  | refs (sz : Nat) (rows rows' : List (List PV)) : hlook H i = some (.refs sz rows) → EntRs L F H rows rows' → EntO L F H i (.refs sz rows')
  | fflat (sz : Nat) (rows fr : List (List FV)) : hlook H i = some (.flat sz rows) → AsRs H F (rows.map fun r => r.map PV.fz) fr → EntO L F H i (.flat sz fr)
theorem EntO.some {L F : List Nat} {H : Hp} {i : Nat} {o : Ob} (h : EntO L F H i o) : ∃ o', hlook H i = Option.some o' := by
  cases h with
  | same _ h _ => exact ⟨_, h⟩
  | flat _ _ _ h _ => exact ⟨_, h⟩
  | refs _ _ _ h _ => exact ⟨_, h⟩
  | fflat _ _ _ h _ => exact ⟨_, h⟩
def EntH (L F : List Nat) (H : Hp) : Hp → Prop
  | [] => True
  | (id, none) :: r => EntH L F H r
  | (id, some o) :: r => (Nat.blt id L.length = true ∧ F.contains (renI L id) = false ∧ EntO L F H (renI L id) o) ∧ EntH L F H r

theorem EntG.get {L F : List Nat} {H : Hp} {G : Env} : ∀ {G' : Env}, EntG L F H G G' → ∀ t p', look G' t = some p' → ∃ p, look G t = some p ∧ EntV L F H p p'
  | [], _, t, p', h => by cases h
  | (s, q) :: r, hE, t, p', h => by
    rw [look_cons] at h
    by_cases hs : s = t
    · rw [if_pos hs] at h; cases h; subst hs; exact hE.1
    · rw [if_neg hs] at h; exact EntG.get hE.2 t p' h
theorem EntH.get {L F : List Nat} {H : Hp} : ∀ {H' : Hp}, EntH L F H H' → ∀ id o, hlook H' id = some o → id < L.length ∧ F.contains (renI L id) = false ∧ EntO L F H (renI L id) o
  | [], _, t, p', h => by cases h
  | (s, none) :: r, hE, t, p', h => by
    rw [hlook_cons] at h
    by_cases hs : s = t
    · rw [if_pos hs] at h; cases h
    · rw [if_neg hs] at h; exact EntH.get (H' := r) hE t p' h
  | (s, some q) :: r, hE, t, p', h => by
    rw [hlook_cons] at h
    by_cases hs : s = t
    · rw [if_pos hs] at h; cases h; subst hs; exact ⟨blt_of hE.1.1, hE.1.2⟩
    · rw [if_neg hs] at h; exact EntH.get hE.2 t p' h

theorem EntO.own {L F : List Nat} {H H' : Hp} {id sz i j isz : Nat} {irows : List (List FV)} {o : Ob} (h : EntO L F H (renI L id) o) (hl : hlook H' id = Option.some o) (hO : OwnE H' id sz i j isz irows) : OwnE H (renI L id) sz i j isz irows := by
  obtain ⟨rows, r, h1, h2, h3⟩ := hO
  rw [h1] at hl; cases hl
  cases h with
  | same _ q1 _ =>
    simp only [renO] at q1
    exact ⟨_, _, q1, by rw [List.getElem?_map, h2]; rfl, by rw [renPs_eq, List.getElem?_map, h3]; rfl⟩
  | refs _ rows0 _ q1 q2 =>
    obtain ⟨p, hp, hq⟩ := q2.get.2 i r h2
    obtain ⟨p2, hp2, hq2⟩ := hq.get.2 j _ h3
    rcases hq2 with ⟨hq2, _⟩ | ⟨f, hf, _⟩
    · exact ⟨rows0, p, q1, hp, by rw [hp2, hq2]; rfl⟩
    · cases hf
def nodupB : List Nat → Bool
  | [] => true
  | a :: r => !(r.contains a) && nodupB r
theorem nodupB_spec : ∀ {L : List Nat}, nodupB L = true → L.Nodup
  | [], _ => by simp
  | a :: r, h => by
    simp only [nodupB, Bool.and_eq_true, Bool.not_eq_true', List.contains_eq_mem, decide_eq_false_iff_not] at h
    exact List.nodup_cons.2 ⟨h.1, nodupB_spec h.2⟩
theorem renI_inj {L : List Nat} (h : L.Nodup) {i j : Nat} (hi : i < L.length) (hj : j < L.length) (he : renI L i = renI L j) : i = j := by
  simp only [renI, List.getD_eq_getElem?_getD, hi, hj, List.getElem?_eq_getElem, Option.getD_some] at he
  exact (List.getElem_inj h).1 he

def keysH : Hp → List Nat
  | [] => []
  | (i, some _) :: r => i :: keysH r
  | (_, none) :: r => keysH r
theorem keysH_mem : ∀ {H : Hp} {id : Nat} {o : Ob}, hlook H id = some o → id ∈ keysH H
  | [], _, _, h => by cases h
  | (s, none) :: r, id, o, h => by
    rw [hlook_cons] at h
    by_cases hs : s = id
    · rw [if_pos hs] at h; cases h
    · rw [if_neg hs] at h; exact keysH_mem (H := r) h
  | (s, some q) :: r, id, o, h => by
    rw [hlook_cons] at h
    by_cases hs : s = id
    · subst hs; exact List.mem_cons_self ..
    · rw [if_neg hs] at h; exact List.mem_cons_of_mem _ (keysH_mem (H := r) h)
theorem nodup_map_inj {f : Nat → Nat} : ∀ {l : List Nat}, (l.map f).Nodup → ∀ x ∈ l, ∀ y ∈ l, f x = f y → x = y
  | [], _, x, hx, _, _, _ => by cases hx
  | a :: l, h, x, hx, y, hy, e => by
    rw [List.map_cons, List.nodup_cons] at h
    rcases List.mem_cons.1 hx with e1 | hx1
    · rcases List.mem_cons.1 hy with e2 | hy1
      · rw [e1, e2]
      · exact absurd (by rw [← e1, e]; exact List.mem_map_of_mem hy1) h.1
    · rcases List.mem_cons.1 hy with e2 | hy1
      · exact absurd (by rw [← e2, ← e]; exact List.mem_map_of_mem hx1) h.1
      · exact nodup_map_inj h.2 x hx1 y hy1 e
/-- what the names of L keep: the lent objects keep theirs -/
def keeps (C : Cx) (L : List Nat) : Prop := ∀ i, i < C.n0 → i < L.length ∧ renI L i = i

theorem Mem.weak {C : Cx} {H H' : Hp} {nx : Nat} {S : Nat → Prop} {m : Ids} {w : World} (hm : Mem C H nx S m w) {L F : List Nat} (hnd : nodupB ((keysH H').map (renI L)) = true) (hk : keeps C L) (hH : EntH L F H H') (hFH : ∀ id, F.contains id = true → ∃ o, hlook H id = some o) :
    Mem C H' L.length (addF S m F) (renM L m) w ∧ ∀ v p p', Rep w S m v p → EntV L F H p p' → Rep w (addF S m F) (renM L m) v p' := by
  have hS : ∀ b, S b → addF S m F b := fun b h => .inl h
  have hnd' := nodupB_spec hnd
  have rep' : ∀ v p, Rep w S m v p → Rep w (addF S m F) m v p := fun v p h => h.mono ⟨hS, fun _ _ => rfl, fun _ _ h => h, fun _ _ h => h⟩
  have own : ∀ id b, F.contains id = true → m id = some (some b) → b < w.heap.size ∧ (C.w0.heap.size ≤ b ∨ C.own0 b) := fun id b hF hb => by
    obtain ⟨o, ho⟩ := hFH id hF
    exact (hm.blk id o b ho hb).2
  have valV : ∀ v p p', Rep w S m v p → EntV L F H p p' → Rep w (addF S m F) (renM L m) v p' := fun v p p' hr he => by
    rcases he with ⟨he, hb⟩ | ⟨f, rfl, hf⟩
    · exact (rep' v p hr).unren p' he hb
    · exact .fz _ _ (hf.rep hm hS (fun id b hF hb => .inr ⟨id, hF, hb⟩) v hr)
  have hobj : ∀ (id : Nat) (o : Ob), id < L.length → EntO L F H (renI L id) o → ORep w (addF S m F) (renM L m) id o := fun id o hid he => by
    cases he with
    | same _ h2 h3 => exact ((hm.objs _ _ h2).mono ⟨hS, fun _ _ => rfl, fun _ _ h => h, fun _ _ h => h⟩ (fun _ _ => rfl)).unren hid h3
    | flat sz rows fr h2 h3 =>
      obtain ⟨g1, g2⟩ := h3.get
      rcases hm.objs _ _ h2 with ⟨k1, k2⟩ | ⟨b, c, e, k1, k2, k3, k4, k5⟩
      · exact .inl ⟨by simp only [renM, hid, if_true]; exact k1, by subst k2; exact List.eq_nil_of_length_eq_zero g1.symm⟩
      · refine .inr ⟨b, c, e, by simp only [renM, hid, if_true]; exact k1, k2, by rw [← g1]; exact k3, fun r hr => ?_, fun i j r p hi hj => ?_⟩
        · obtain ⟨i, hi, rfl⟩ := List.getElem_of_mem hr
          obtain ⟨p, hp, hq⟩ := g2 i _ (List.getElem?_eq_getElem hi)
          rw [← hq.get.1]; exact k4 p (List.mem_of_getElem? hp)
        · obtain ⟨q, hq, hqr⟩ := g2 i r hi
          obtain ⟨q2, hq2, ha⟩ := hqr.get.2 j p hj
          obtain ⟨u, hu, hone, hrep⟩ := k5 i j q q2 hq hq2
          exact ⟨u, hu, hone, ha.rep hm hS (fun id b hF hb => .inr ⟨id, hF, hb⟩) u hrep⟩
    | fflat sz rows fr h2 h3 =>
      obtain ⟨g1, g2⟩ := h3.get
      rw [List.length_map] at g1
      rcases hm.objs _ _ h2 with ⟨k1, k2⟩ | ⟨b, c, e, k1, k2, k3, k4, k5⟩
      · exact .inl ⟨by simp only [renM, hid, if_true]; exact k1, by subst k2; exact List.eq_nil_of_length_eq_zero g1.symm⟩
      · refine .inr ⟨b, c, e, by simp only [renM, hid, if_true]; exact k1, k2, by rw [← g1]; exact k3, fun r hr => ?_, fun i j r p hi hj => ?_⟩
        · obtain ⟨i, hi, rfl⟩ := List.getElem_of_mem hr
          obtain ⟨p, hp, hq⟩ := g2 i _ (List.getElem?_eq_getElem hi)
          rw [List.getElem?_map] at hp
          obtain ⟨p0, hp0, rfl⟩ := Option.map_eq_some_iff.1 hp
          have := hq.get.1
          rw [List.length_map] at this
          rw [← this]; exact k4 p0 (List.mem_of_getElem? hp0)
        · obtain ⟨q, hq, hqr⟩ := g2 i r hi
          rw [List.getElem?_map] at hq
          obtain ⟨q0, hq0, rfl⟩ := Option.map_eq_some_iff.1 hq
          obtain ⟨q2, hq2, ha⟩ := hqr.get.2 j p hj
          rw [List.getElem?_map] at hq2
          obtain ⟨q3, hq3, rfl⟩ := Option.map_eq_some_iff.1 hq2
          obtain ⟨u, hu, hone, hrep⟩ := k5 i j q0 q3 hq0 hq3
          exact ⟨u, hu, hone, ha.rep hm hS (fun id b hF hb => .inr ⟨id, hF, hb⟩) u (.fz _ _ hrep)⟩
    | refs sz rows fr h2 h3 =>
      obtain ⟨g1, g2⟩ := h3.get
      rcases hm.objs _ _ h2 with ⟨k1, k2⟩ | ⟨b, c, e, k1, k2, k3, k4, k5⟩
      · exact .inl ⟨by simp only [renM, hid, if_true]; exact k1, by subst k2; exact List.eq_nil_of_length_eq_zero g1.symm⟩
      · refine .inr ⟨b, c, e, by simp only [renM, hid, if_true]; exact k1, k2, by rw [← g1]; exact k3, fun r hr => ?_, fun i j r p hi hj => ?_⟩
        · obtain ⟨i, hi, rfl⟩ := List.getElem_of_mem hr
          obtain ⟨p, hp, hq⟩ := g2 i _ (List.getElem?_eq_getElem hi)
          rw [← hq.get.1]; exact k4 p (List.mem_of_getElem? hp)
        · obtain ⟨q, hq, hqr⟩ := g2 i r hi
          obtain ⟨q2, hq2, ha⟩ := hqr.get.2 j p hj
          obtain ⟨u, hu, hone, hrep⟩ := k5 i j q q2 hq hq2
          exact ⟨u, hu, hone, valV u q2 p hrep ha⟩
  refine ⟨⟨hm.os, hm.tape, hm.output, hm.fz, hm.size, hm.frame, ⟨fun b h => hS b (hm.le.st b h), hm.le.same, fun i x hx => ?_, hm.le.room⟩, fun b hb => ?_, hm.n0, fun id o ho => ?_, fun id o b ho hb => ?_, fun id id' o o' b ho ho' hb hb' => ?_, fun b hb => ?_, fun i hi => ?_, ?_⟩, fun v p p' hr he => ?_⟩
  · obtain ⟨h1, h2⟩ := hk i (hm.n0 i x hx)
    simp only [renM, h1, if_true, h2]; exact hm.le.ids i x hx
  · rcases hb with hb | ⟨id, hF, hb⟩
    · exact hm.sub b hb
    · rcases (own id b hF hb).2 with h | h
      · exact .inr (.inr h)
      · exact .inr (.inl h)
  · obtain ⟨h1, _, h2⟩ := hH.get id o ho
    exact hobj id o h1 h2
  · obtain ⟨h1, h1', h2'⟩ := hH.get id o ho
    obtain ⟨o0, h2⟩ := h2'.some
    simp only [renM, h1, if_true] at hb
    obtain ⟨hs, hrest⟩ := hm.blk _ _ b h2 hb
    refine ⟨?_, hrest⟩
    rintro (h | ⟨id2, hF, hb2⟩)
    · exact hs h
    · obtain ⟨o2, ho2⟩ := hFH id2 hF
      have := hm.inj _ _ _ _ b h2 ho2 hb hb2
      rw [this, hF] at h1'; cases h1'
  · obtain ⟨h1, _, h2e⟩ := hH.get id o ho
    obtain ⟨h1', _, h2e'⟩ := hH.get id' o' ho'
    obtain ⟨_, h2⟩ := h2e.some
    obtain ⟨_, h2'⟩ := h2e'.some
    simp only [renM, h1, h1', if_true] at hb hb'
    exact nodup_map_inj hnd' _ (keysH_mem ho) _ (keysH_mem ho') (hm.inj _ _ _ _ b h2 h2' hb hb')
  · rcases hb with hb | ⟨id, hF, hb⟩
    · exact hm.stab b hb
    · exact (own id b hF hb).1
  · simp [renM, Nat.not_lt.2 hi]
  · obtain ⟨ib, hn⟩ := hm.nst
    have ex : ∀ id sz i j isz irows, OwnE H' id sz i j isz irows → id < L.length ∧ OwnE H (renI L id) sz i j isz irows ∧ id ∈ keysH H' := fun id sz i j isz irows hO => by
      obtain ⟨rows, r, h1, h2, h3⟩ := hO
      obtain ⟨q1, _, q2⟩ := hH.get id _ h1
      exact ⟨q1, q2.own h1 ⟨rows, r, h1, h2, h3⟩, keysH_mem h1⟩
    refine ⟨_, hn.keep (renI L) (fun id sz i j isz irows hO => ?_) (fun id sz i j isz irows id2 sz2 i2 j2 isz2 irows2 h1 h2 he => ?_) hS (fun _ _ => rfl) (fun id sz i j isz irows b c e u _ _ k2 k3 => ⟨c, e, k2, k3⟩) (fun id sz i j isz irows b' hO hb h1 h2 h3 h4 => ⟨rfl, ?_, h2, h3, fun id2 o2 ho2 hc => ?_⟩)⟩
    · obtain ⟨q1, q2, _⟩ := ex _ _ _ _ _ _ hO
      exact ⟨q2, by simp only [renM, q1, if_true]⟩
    · exact nodup_map_inj hnd' _ (ex _ _ _ _ _ _ h1).2.2 _ (ex _ _ _ _ _ _ h2).2.2 he
    · rintro (h | ⟨id2, hF, hb2⟩)
      · exact h1 h
      · obtain ⟨o2, ho2⟩ := hFH id2 hF
        exact h4 id2 o2 ho2 hb2
    · obtain ⟨q1, _, q2⟩ := hH.get id2 o2 ho2
      obtain ⟨o3, h5⟩ := q2.some
      simp only [renM, q1, if_true] at hc
      exact h4 _ _ h5 hc
  · exact valV v p p' hr he

theorem Next.weak {C : Cx} {N : Nat} {G G' : Env} {H H' : Hp} {nx : Nat} {K : Act → World → Prop} (L F : List Nat) (hnd : nodupB ((keysH H').map (renI L)) = true) (hk : keeps C L) (hG : EntG L F H G G') (hH : EntH L F H H') (hFH : ∀ id, F.contains id = true → ∃ o, hlook H id = some o)
    (h : Next C N G' H' L.length K) : Next C N G H nx K := by
  intro a w hR
  obtain ⟨S, m, hm, hsl⟩ := hR.mem
  obtain ⟨h1, h2⟩ := hm.weak hnd hk hH hFH
  refine h a w ⟨hR.defers, hR.size, _, _, h1, fun t q hq => ?_⟩
  obtain ⟨p, hp, he⟩ := hG.get t q hq
  obtain ⟨v, hv, hr⟩ := hsl t p hp
  exact ⟨v, hv, h2 v p q hr he⟩

end Go.RT
/- The engine, part 5: control, contracts, entry and exit. -/
namespace Go.RT
set_option linter.all false

section
variable {r : Option Nat} {P : Program} {C : Cx} {N : Nat} {G : Env} {H : Hp} {nx : Nat} {Q : Exit → Act → World → Prop}

theorem n_seq {x y : Code} (h : Next C N G H nx (x.wpM r P (Exit.then (y.wpM r P Q) Q))) : Next C N G H nx ((Code.seq x y).wpM r P Q) := fun a w hr => wpIn_seq (h a w hr)
theorem n_skip (h : Next C N G H nx (Q .normal)) : Next C N G H nx (Code.skip.wpM r P Q) := fun a w hr => wpIn_skip (h a w hr)
theorem n_ret (h : Next C N G H nx (Q .ret)) : Next C N G H nx (Code.ret.wpM r P Q) := fun a w hr => wpIn_ret (h a w hr)
theorem n_exit {id : Nat} (h : Next C N G H nx (Q (.exit id))) : Next C N G H nx ((Code.exit id).wpM r P Q) := fun a w hr => wpIn_exit (h a w hr)
theorem n_block {id : Nat} {c : Code} (h : Next C N G H nx (c.wpM r P (Exit.inBlock id Q))) : Next C N G H nx ((Code.block id c).wpM r P Q) := fun a w hr => wpIn_block (h a w hr)
theorem n_cond {t : Tmp} {x y : Code} (b : Bool) (hl : look G t = some (.fz (.lit (.bool b)))) (ht : b = true → Next C N G H nx (x.wpM r P Q)) (hf : b = false → Next C N G H nx (y.wpM r P Q)) : Next C N G H nx ((Code.cond (.tmp t) x y).wpM r P Q) := by
  intro a w hr
  obtain ⟨S, m, hm, hsl⟩ := hr.mem
  obtain ⟨v, hv, hrep⟩ := hsl t _ hl
  have hev : a.eval (.tmp t) = .bool b := by
    cases hrep with | fz _ _ h => cases h with | lit => simp [Act.eval, hv]
  exact wpIn_cond_split hev (fun h => ht h a w hr) (fun h => hf h a w hr)

theorem blk_hit {id : Nat} : Exit.inBlock id Q (.exit id) = Q .normal := by funext a w; simp [Exit.inBlock]
theorem blk_miss {id id' : Nat} (h : Nat.beq id' id = false) : Exit.inBlock id Q (.exit id') = Q (.exit id') := by
  have : id' ≠ id := fun e => by rw [e, Nat.beq_refl] at h; cases h
  funext a w; simp [Exit.inBlock, this]

theorem loop_n {c : Code} {ι : Type} {I : ι → Env × Hp × Nat} {ok : ι → Prop} {ms : ι → Nat}
    (round : ∀ i, ok i → ∀ K : Act → World → Prop, (∀ j, ok j → ms j < ms i → Next C N (I j).1 (I j).2.1 (I j).2.2 K) → Next C N (I i).1 (I i).2.1 (I i).2.2 (c.wpM r P (Exit.then K Q)))
    (i0 : ι) (h0 : ok i0) (a : Act) (w : World) (hr : Rel C N (I i0).1 (I i0).2.1 (I i0).2.2 a w) : (Code.loop c).wpM r P Q a w := by
  classical
  have least : ∀ a w, (∃ n i, ok i ∧ ms i = n ∧ Rel C N (I i).1 (I i).2.1 (I i).2.2 a w) → ∃ n, (∃ i, ok i ∧ ms i = n ∧ Rel C N (I i).1 (I i).2.1 (I i).2.2 a w) ∧ ∀ k, (∃ i, ok i ∧ ms i = k ∧ Rel C N (I i).1 (I i).2.1 (I i).2.2 a w) → n ≤ k := fun a w h => by
    obtain ⟨n, hn⟩ := h
    induction n using Nat.strongRecOn with
    | _ n ih =>
      by_cases hk : ∃ k, k < n ∧ ∃ i, ok i ∧ ms i = k ∧ Rel C N (I i).1 (I i).2.1 (I i).2.2 a w
      · obtain ⟨k, hlt, hk⟩ := hk; exact ih k hlt hk
      · exact ⟨n, hn, fun k h => Nat.le_of_not_lt fun hlt => hk ⟨k, hlt, h⟩⟩
  refine wpIn_loop (fun a w => ∃ n i, ok i ∧ ms i = n ∧ Rel C N (I i).1 (I i).2.1 (I i).2.2 a w) (fun a w => if h : (∃ n i, ok i ∧ ms i = n ∧ Rel C N (I i).1 (I i).2.1 (I i).2.2 a w) then Classical.choose (least a w h) else 0) ⟨_, i0, h0, rfl, hr⟩ fun a w hI => ?_
  obtain ⟨⟨i, hi, hms, hri⟩, _⟩ := Classical.choose_spec (least a w hI)
  refine round i hi _ (fun j hj hlt => ?_) a w hri
  intro a' w' hr'
  have hex : ∃ n i, ok i ∧ ms i = n ∧ Rel C N (I i).1 (I i).2.1 (I i).2.2 a' w' := ⟨_, j, hj, rfl, hr'⟩
  refine ⟨hex, ?_⟩
  simp only [dif_pos hI, dif_pos hex]
  rw [← hms]
  exact Nat.lt_of_le_of_lt ((Classical.choose_spec (least a' w' hex)).2 _ ⟨j, hj, rfl, hr'⟩) hlt

/-- A LOOP: states by a ghost; every round comes to a state of a lesser ghost. -/
theorem n_loop {c : Code} {ι : Type} (I : ι → Env × Hp × Nat) (ok : ι → Prop) (ms : ι → Nat) (i0 : ι) (h0 : ok i0) (hI : Next C N G H nx (fun a w => Rel C N (I i0).1 (I i0).2.1 (I i0).2.2 a w))
    (round : ∀ i, ok i → ∀ K : Act → World → Prop, (∀ j, ok j → ms j < ms i → Next C N (I j).1 (I j).2.1 (I j).2.2 K) → Next C N (I i).1 (I i).2.1 (I i).2.2 (c.wpM r P (Exit.then K Q))) :
    Next C N G H nx ((Code.loop c).wpM r P Q) := fun a w hr => loop_n round i0 h0 a w (hI a w hr)

/-- the loop's start: weaken into the first ghost's state -/
theorem rel_intro : Next C N G H nx (fun a w => Rel C N G H nx a w) := fun _ _ h => h
end

/-! ## contracts -/
/-- called with the arguments, the lent objects Hin (numbers below n), f returns res, and owns up Hout (below n') -/
structure Meets (P : Program) (f : FuncId) (args : List PV) (n : Nat) (Hin : Hp) (res : PV) (Hout : Hp) (n' : Nat) : Prop where
  run : ∀ (C : Cx) (vs : List Value), C.n0 = n → Mem C Hin n C.S0 C.m0 C.w0 → vs.length = args.length → (∀ (i : Nat) (v : Value) (p : PV), vs[i]? = some v → args[i]? = some p → Rep C.w0 C.S0 C.m0 v p) →
    Calls P f vs.toArray C.w0 fun e w' => ∃ v S' m', e = .returned v ∧ Mem C Hout n' S' m' w' ∧ Rep w' S' m' v res

/-- the same of whatever doer -/
structure MeetsD (D : Array Value → World → (Ending → World → Prop) → Prop) (args : List PV) (n : Nat) (Hin : Hp) (res : PV) (Hout : Hp) (n' : Nat) : Prop where
  run : ∀ (C : Cx) (vs : List Value), C.n0 = n → Mem C Hin n C.S0 C.m0 C.w0 → vs.length = args.length → (∀ (i : Nat) (v : Value) (p : PV), vs[i]? = some v → args[i]? = some p → Rep C.w0 C.S0 C.m0 v p) →
    D vs.toArray C.w0 fun e w' => ∃ v S' m', e = .returned v ∧ Mem C Hout n' S' m' w' ∧ Rep w' S' m' v res
def argEnv : Nat → List PV → Env
  | _, [] => []
  | i, p :: r => (i, p) :: argEnv (i + 1) r
theorem look_argEnv : ∀ (ps : List PV) (i t : Nat) (q : PV), look (argEnv i ps) t = some q → i ≤ t ∧ ps[t - i]? = some q
  | [], i, t, q, h => by cases h
  | p :: r, i, t, q, h => by
    rw [argEnv, look_cons] at h
    by_cases hi : i = t
    · rw [if_pos hi] at h; cases h; subst hi; simp
    · rw [if_neg hi] at h
      obtain ⟨h1, h2⟩ := look_argEnv r (i + 1) t q h
      refine ⟨by omega, ?_⟩
      rw [show t - i = (t - (i + 1)) + 1 by omega]
      simpa using h2

/-- what the body must come to -/
def Out (P : Program) (fn : Func) (C : Cx) (res : PV) (Hout : Hp) (n' : Nat) : Exit → Act → World → Prop := fun e a w => C.df = [] → bodyPost P fn (fun e w' => ∃ v S' m', e = .returned v ∧ Mem C Hout n' S' m' w' ∧ Rep w' S' m' v res) e a w

theorem body_mono {P : Program} {fn : Func} {R R' : Ending → World → Prop} {e : Exit} {a : Act} {w : World} (h : bodyPost P fn R e a w) (hr : ∀ e w, R e w → R' e w) : bodyPost P fn R' e a w := by
  cases e with
  | normal => obtain ⟨h1, v, h2, h3⟩ := h; exact ⟨h1, v, h2, hr _ _ h3⟩
  | ret => obtain ⟨h1, v, h2, h3⟩ := h; exact ⟨h1, v, h2, hr _ _ h3⟩
  | panic c => obtain ⟨h1, h3⟩ := h; exact ⟨h1, hr _ _ h3⟩
  | outgrown => exact hr _ _ h
  | exit _ => exact h.elim
  | goto _ => exact h.elim
theorem Meets.intro {P : Program} {f : FuncId} {fn : Func} {c : Code} {args : List PV} {n : Nat} {Hin : Hp} {res : PV} {Hout : Hp} {n' : Nat} (hf : P.funcs[f]? = some fn) (hb : fn.body = some c) (hN : args.length ≤ fn.ntmps)
    (h : ∀ C : Cx, C.n0 = n → Next C fn.ntmps (argEnv 0 args) Hin n (c.wpM none P (Out P fn C res Hout n'))) : Meets P f args n Hin res Hout n' := by
  refine ⟨fun C vs hn hm hl hr => callsIn_FM.1 (callsIn_of_wp (F := FM none) (n := 0) hf hb trivial (wpIn_mono (h { C with df := [] } hn _ _ ⟨rfl, ?_, C.S0, C.m0, hm.df _, fun t q hq => ?_⟩) fun e a w q => body_mono (q rfl) fun e w' ⟨v, S', m', h1, h2, h3⟩ => ⟨v, S', m', h1, h2.df C.df, h3⟩))⟩
  · simp; omega
  · obtain ⟨_, h2⟩ := look_argEnv args 0 t q hq
    simp only [Nat.sub_zero] at h2
    have ht : t < vs.length := by rw [hl]; exact (List.getElem?_eq_some_iff.1 h2).1
    refine ⟨vs[t], ?_, hr t vs[t] q (by simp [ht]) h2⟩
    simp [Array.getElem?_append, ht]

/-- one result, in a slot -/
theorem n_out1 {P : Program} {fn : Func} {C : Cx} {res : PV} {Hout : Hp} {n' : Nat} {r : Tmp} {N : Nat} {G : Env} {H : Hp} (hres : fn.results = #[.tmp r]) (hl : look G r = some res) (hH : H = Hout) (hn : N = N) : Next C N G H n' (Out P fn C res Hout n' .ret) := by
  subst hH
  intro a w hr
  obtain ⟨S, m, hm, hsl⟩ := hr.mem
  obtain ⟨v, hv, hrep⟩ := hsl r _ hl
  refine fun hdf => ⟨hr.defers.trans hdf, v, ?_, v, S, m, rfl, hm, hrep⟩
  simp [results, hres, hv]
theorem n_out0 {P : Program} {fn : Func} {C : Cx} {Hout : Hp} {n' : Nat} {N : Nat} {G : Env} (hres : fn.results = #[]) : Next C N G Hout n' (Out P fn C (.fz (.tup [])) Hout n' .ret) := by
  intro a w hr
  obtain ⟨S, m, hm, hsl⟩ := hr.mem
  refine fun hdf => ⟨hr.defers.trans hdf, .tuple #[], ?_, _, S, m, rfl, hm, .fz _ _ (.tup _ _ rfl fun i c f h => by simp at h)⟩
  simp [results, hres]

theorem rep_tup2 {w : World} {S : Nat → Prop} {m : Ids} {v1 v2 : Value} {f1 f2 : FV} (h1 : Rep w S m v1 (.fz f1)) (h2 : Rep w S m v2 (.fz f2)) : Rep w S m (.tuple #[v1, v2]) (.fz (.tup [f1, f2])) := by
  cases h1 with | fz _ _ h1 => cases h2 with | fz _ _ h2 =>
  refine .fz _ _ (.tup _ _ rfl fun i c f hc hf => ?_)
  match i with
  | 0 => simp at hc hf; subst hc; subst hf; exact h1
  | 1 => simp at hc hf; subst hc; subst hf; exact h2
  | i + 2 => simp at hf
theorem rep_tup3 {w : World} {S : Nat → Prop} {m : Ids} {v1 v2 v3 : Value} {f1 f2 f3 : FV} (h1 : Rep w S m v1 (.fz f1)) (h2 : Rep w S m v2 (.fz f2)) (h3 : Rep w S m v3 (.fz f3)) : Rep w S m (.tuple #[v1, v2, v3]) (.fz (.tup [f1, f2, f3])) := by
  cases h1 with | fz _ _ h1 => cases h2 with | fz _ _ h2 => cases h3 with | fz _ _ h3 =>
  refine .fz _ _ (.tup _ _ rfl fun i c f hc hf => ?_)
  match i with
  | 0 => simp at hc hf; subst hc; subst hf; exact h1
  | 1 => simp at hc hf; subst hc; subst hf; exact h2
  | 2 => simp at hc hf; subst hc; subst hf; exact h3
  | i + 3 => simp at hf
theorem rep_ptup2 {w : World} {S : Nat → Prop} {m : Ids} {v1 v2 : Value} {f1 f2 : PV} (h1 : Rep w S m v1 f1) (h2 : Rep w S m v2 f2) : Rep w S m (.tuple #[v1, v2]) (.tup [f1, f2]) := by
  refine .tup _ _ rfl fun i c f hc hf => ?_
  match i with
  | 0 => simp at hc hf; subst hc; subst hf; exact h1
  | 1 => simp at hc hf; subst hc; subst hf; exact h2
  | i + 2 => simp at hf
theorem rep_ptup3 {w : World} {S : Nat → Prop} {m : Ids} {v1 v2 v3 : Value} {f1 f2 f3 : PV} (h1 : Rep w S m v1 f1) (h2 : Rep w S m v2 f2) (h3 : Rep w S m v3 f3) : Rep w S m (.tuple #[v1, v2, v3]) (.tup [f1, f2, f3]) := by
  refine .tup _ _ rfl fun i c f hc hf => ?_
  match i with
  | 0 => simp at hc hf; subst hc; subst hf; exact h1
  | 1 => simp at hc hf; subst hc; subst hf; exact h2
  | 2 => simp at hc hf; subst hc; subst hf; exact h3
  | i + 3 => simp at hf

/-- two results -/
theorem n_out2 {P : Program} {fn : Func} {C : Cx} {p1 p2 : PV} {res : PV} {Hout : Hp} {n' : Nat} {r1 r2 : Tmp} {N : Nat} {G : Env} (hres : fn.results = #[.tmp r1, .tmp r2]) (h1 : look G r1 = some p1) (h2 : look G r2 = some p2)
    (hp : (∃ f1 f2, p1 = .fz f1 ∧ p2 = .fz f2 ∧ res = .fz (.tup [f1, f2])) ∨ res = .tup [p1, p2]) : Next C N G Hout n' (Out P fn C res Hout n' .ret) := by
  intro a w hr
  obtain ⟨S, m, hm, hsl⟩ := hr.mem
  obtain ⟨v1, hv1, hr1⟩ := hsl r1 _ h1
  obtain ⟨v2, hv2, hr2⟩ := hsl r2 _ h2
  refine fun hdf => ⟨hr.defers.trans hdf, .tuple #[v1, v2], ?_, _, S, m, rfl, hm, ?_⟩
  · rw [results_tmp2 hres]; simp [hv1, hv2]
  · rcases hp with ⟨f1, f2, rfl, rfl, rfl⟩ | rfl
    · exact rep_tup2 hr1 hr2
    · exact rep_ptup2 hr1 hr2
theorem n_out3 {P : Program} {fn : Func} {C : Cx} {p1 p2 p3 : PV} {res : PV} {Hout : Hp} {n' : Nat} {r1 r2 r3 : Tmp} {N : Nat} {G : Env} (hres : fn.results = #[.tmp r1, .tmp r2, .tmp r3]) (h1 : look G r1 = some p1) (h2 : look G r2 = some p2) (h3 : look G r3 = some p3)
    (hp : (∃ f1 f2 f3, p1 = .fz f1 ∧ p2 = .fz f2 ∧ p3 = .fz f3 ∧ res = .fz (.tup [f1, f2, f3])) ∨ res = .tup [p1, p2, p3]) : Next C N G Hout n' (Out P fn C res Hout n' .ret) := by
  intro a w hr
  obtain ⟨S, m, hm, hsl⟩ := hr.mem
  obtain ⟨v1, hv1, hr1⟩ := hsl r1 _ h1
  obtain ⟨v2, hv2, hr2⟩ := hsl r2 _ h2
  obtain ⟨v3, hv3, hr3⟩ := hsl r3 _ h3
  refine fun hdf => ⟨hr.defers.trans hdf, .tuple #[v1, v2, v3], ?_, _, S, m, rfl, hm, ?_⟩
  · simp [results, hres, hv1, hv2, hv3]
  · rcases hp with ⟨f1, f2, f3, rfl, rfl, rfl, rfl⟩ | rfl
    · exact rep_tup3 hr1 hr2 hr3
    · exact rep_ptup3 hr1 hr2 hr3

/-- the pure contract: frozen in, frozen out -/
abbrev Pure (P : Program) (f : FuncId) (args : List FV) (res : FV) : Prop := Meets P f (args.map PV.fz) 0 [] (.fz res) [] 0

theorem keeps0 {C : Cx} (h : C.n0 = 0) (L : List Nat) : keeps C L := fun i hi => by rw [h] at hi; omega

/-- a fresh slice may be handed out frozen -/
theorem Meets.freeze {P : Program} {f : FuncId} {args : List PV} {sz : Nat} {rows : List (List FV)} {len : Nat} (hlen : len = rows.length) (h : Meets P f args 0 [] (.sl 0 sz 0 len) [(0, some (.flat sz rows))] 1) : Meets P f args 0 [] (.fz (.vals sz rows)) [] 0 := by
  subst hlen
  refine ⟨fun C vs hn hm hl hr => (h.run C vs hn hm hl hr).mono fun e w' ⟨v, S', m', he, hm', hv⟩ => ?_⟩
  obtain ⟨h1, h2⟩ := hm'.weak (L := []) (F := [0]) (H' := []) rfl (keeps0 hn _) trivial (fun id hid => by
    have : id = 0 := by simpa using hid
    subst this; exact ⟨_, rfl⟩)
  exact ⟨v, _, _, he, h1, h2 v _ _ hv (.inr ⟨_, rfl, .sl 0 sz 0 _ rows rows rfl rfl (by simp) rfl⟩)⟩

end Go.RT
/- The engine, part 6: rules for operations that make no object: numbers, tests, frozen reads, loads. -/
namespace Go.RT
set_option linter.all false

abbrev IV (k : IntKind) (n : Int) : PV := .fz (.lit (.int k n))
abbrev BV (b : Bool) : PV := .fz (.lit (.bool b))
abbrev If (k : IntKind) (n : Int) : FV := .lit (.int k n)
abbrev Bf (b : Bool) : FV := .lit (.bool b)

/-- a type's row -/
class TyD (P : Program) (t : TypeId) (d : outParam TypeDesc) : Prop where
  h : P.underlying t = some d
class TyN (P : Program) (t : TypeId) (size bytes : outParam Nat) (zero : outParam Value) : Prop where
  h : ∃ i, P.info? t = some i ∧ i.size = size ∧ i.bytes = bytes ∧ i.zero = some zero

inductive Opd (G : Env) (g : Bool) : Operand → PV → Prop where
  | tmp (t : Tmp) (p : PV) : look G t = some p → Opd G g (.tmp t) p
  | topt (t : Tmp) (p : PV) (g' : Bool) : look G t = some (.opt g' p) → (g = true → g' = true) → Opd G g (.tmp t) p
  | const (v : Value) : Opd G g (.const v) (.fz (.lit v))
  | func (f : FuncId) : Opd G g (.func f) (.clo f [] [])
  | nil (x : Operand) (sz : Nat) : Opd G g x (.fz (.lit (.slice none 0 0))) → Opd G g x (.fz (.vals sz []))
  | funcF (f : FuncId) : Opd G g (.func f) (.fz (.clo f []))
  | clo (x : Operand) (f : FuncId) (caps : List FV) : Opd G g x (.fz (.clo f caps)) → Opd G g x (.clo f [] (caps.map PV.fz))
  | wc (x : Operand) (c : Nat) (p : PV) : Opd G g x (.wc c p) → Opd G g x p

theorem g_and {x : Bool} (h : (true && x) = true) : (x == true) = true := by cases x <;> simp at h ⊢
theorem g_andn {x : Bool} (h : (true && !x) = true) : (x == false) = true := by cases x <;> simp at h ⊢
theorem g_and' {g x : Bool} (h : (g && x) = true) : (g && (x == true)) = true := by cases x <;> simp at h ⊢; exact h
theorem g_andn' {g x : Bool} (h : (g && !x) = true) : (g && (x == false)) = true := by cases x <;> simp at h ⊢; exact h
theorem g_left {g x : Bool} (h : (g && x) = true) : g = true := by cases x <;> simp at h; exact h
theorem Rep.lit {w : World} {S : Nat → Prop} {m : Ids} {v u : Value} (h : Rep w S m v (.fz (.lit u))) : v = u := by
  cases h with | fz _ _ h => cases h with | lit => rfl
theorem Rep.frz {w : World} {S : Nat → Prop} {m : Ids} {v : Value} {f : FV} (h : Rep w S m v (.fz f)) : FRep w S v f := by
  cases h with | fz _ _ h => exact h

theorem FRep.cloRep {w : World} {S : Nat → Prop} {m : Ids} {v : Value} {f : FuncId} {caps : List FV} (h : FRep w S v (.clo f caps)) : Rep w S m v (.clo f [] (caps.map PV.fz)) := by
  cases h with
  | clo _ cs _ hl h =>
    refine .clo f #[] cs [] _ rfl (by simpa using hl) (fun i c p h => by simp at h) fun i c p hc hp => ?_
    rw [List.getElem?_map] at hp
    obtain ⟨q, hq, rfl⟩ := Option.map_eq_some_iff.1 hp
    exact .fz _ _ (h i c q hc hq)
theorem Opd.rep {G : Env} {g : Bool} {x : Operand} {p : PV} {o : Oper} {a : Act} {w : World} {S : Nat → Prop} {m : Ids} (hg : g = true) (hin : x ∈ o.op.operands) (ha : ∀ t q, t ∈ opTmps o → look G t = some q → RepAt w S m a t q)
    (h : Opd G g x p) : Rep w S m (a.eval x) p := by
  induction h with
  | tmp t p hl =>
    obtain ⟨v, hv, hr⟩ := ha t p (by unfold opTmps; exact List.mem_filterMap.2 ⟨.tmp t, by simpa using hin, rfl⟩) hl
    simpa [Act.eval, hv] using hr
  | topt t p g' hl hgg =>
    obtain ⟨v, hv, hr⟩ := ha t _ (by unfold opTmps; exact List.mem_filterMap.2 ⟨.tmp t, by simpa using hin, rfl⟩) hl
    cases hr with
    | opt _ _ _ h _ => simpa [Act.eval, hv] using h (hgg hg)
  | const v => exact .fz _ _ (.lit v)
  | func f => exact .clo _ _ _ _ _ rfl rfl (fun i c p h => by simp at h) (fun i c p h => by simp at h)
  | nil x sz _ ih =>
    rw [(ih hin).lit]
    exact .fz _ _ (.nil _ _ sz)
  | funcF f => exact .fz _ _ (.clo f #[] [] rfl (fun i c p h => by simp at h))
  | clo x f caps _ ih => exact (ih hin).frz.cloRep
  | wc x c p _ ih =>
    have h1 := ih hin
    generalize a.eval x = v at h1 ⊢
    cases h1 with | wc _ _ _ _ h => exact h


section
variable {P : Program} {o : Oper} {g : Bool} {G : Env}

abbrev OpP (P : Program) (o : Oper) (g : Bool) (G : Env) (p : PV) : Prop := ∀ H nx, OpS P o g G H nx p H nx

theorem wp_value {a : Act} {w w' : World} {v : Value} {K : Act → World → Prop} {Q : Exit → Act → World → Prop} (h : (execOp a.eval o).run P w = .ok (.value v) w') (hk : K (a.put o.dst v) w') : o.wpE P a w K Q := Oper.wpE_of h (fun _ => by simp) fun _ => hk

/-- an operation that only computes -/
theorem OpP.of {p : PV} (h : ∀ (S : Nat → Prop) (m : Ids) (a : Act) (w : World), g = true → (∀ t q, t ∈ opTmps o → look G t = some q → RepAt w S m a t q) → ∃ v, (execOp a.eval o).run P w = .ok (.value v) w ∧ Rep w S m v p) : OpP P o g G p :=
  fun H nx => ⟨fun C S m a w hm hg ha K Q hK => by
    obtain ⟨v, hv, hr⟩ := h S m a w hg ha
    exact wp_value hv (hK v w S m hm (Le.refl _ _ _) hr)⟩

theorem op_move {x : Operand} {p : PV} (ho : o.op = .move x) (hx : Opd G g x p) : OpP P o g G p :=
  .of fun S m a w hg ha => ⟨_, by simp [execOp, ho], hx.rep hg (by simp [ho, Op.operands]) ha⟩
theorem op_assign {x : Operand} {p : PV} (ho : o.op = .assign x) (hx : Opd G g x p) : OpP P o g G p :=
  .of fun S m a w hg ha => ⟨_, by simp [execOp, ho], hx.rep hg (by simp [ho, Op.operands]) ha⟩
theorem op_pick_and {c x : Operand} {b1 b2 : Bool} (ho : o.op = .pick c x (.const (.bool false))) (hc : Opd G g c (BV b1)) (hx : Opd G (g && b1) x (BV b2)) : OpP P o g G (BV (b1 && b2)) :=
  .of fun S m a w hg ha => by
    have h1 := (hc.rep hg (by simp [ho, Op.operands]) ha).lit
    cases b1 with
    | true =>
      have h2 := (hx.rep (by simp [hg]) (by simp [ho, Op.operands]) ha).lit
      exact ⟨_, by simp [execOp, ho, h1, asBool, h2], .fz _ _ (.lit _)⟩
    | false => exact ⟨_, by simp [execOp, ho, h1, asBool]; rfl, .fz _ _ (.lit _)⟩
theorem op_pick_or {c x : Operand} {b1 b2 : Bool} (ho : o.op = .pick c (.const (.bool true)) x) (hc : Opd G g c (BV b1)) (hx : Opd G (g && !b1) x (BV b2)) : OpP P o g G (BV (b1 || b2)) :=
  .of fun S m a w hg ha => by
    have h1 := (hc.rep hg (by simp [ho, Op.operands]) ha).lit
    cases b1 with
    | false =>
      have h2 := (hx.rep (by simp [hg]) (by simp [ho, Op.operands]) ha).lit
      exact ⟨_, by simp [execOp, ho, h1, asBool, h2], .fz _ _ (.lit _)⟩
    | true => exact ⟨_, by simp [execOp, ho, h1, asBool]; rfl, .fz _ _ (.lit _)⟩

/-! numbers -/
def inr : IntKind → Int → Prop
  | .i8, n => -128 ≤ n ∧ n ≤ 127
  | .i16, n => -32768 ≤ n ∧ n ≤ 32767
  | .i32, n => -2147483648 ≤ n ∧ n ≤ 2147483647
  | .i64, n => -9223372036854775808 ≤ n ∧ n ≤ 9223372036854775807
  | .u8, n => 0 ≤ n ∧ n ≤ 255
  | .u16, n => 0 ≤ n ∧ n ≤ 65535
  | .u32, n => 0 ≤ n ∧ n ≤ 4294967295
  | .u64, n => 0 ≤ n ∧ n ≤ 18446744073709551615
theorem wrap_of {k : IntKind} {n : Int} (h : inr k n) : k.wrap n = n := by
  cases k <;> simp only [inr] at h <;> simp [IntKind.wrap, IntKind.bits, IntKind.signed] <;> omega

section
variable {x y : Operand} {k : IntKind} {a b : Int} {t t' : TypeId}

theorem op_bin {op : BinOp} {v : Value} (ho : o.op = .binOp op t x y t') (hx : Opd G g x (IV k a)) (hy : Opd G g y (IV k b)) (hop : op ≠ .shl) (hop' : op ≠ .shr)
    (h : ∀ w, g = true → (binOp op t (.int k a) (.int k b)).run P w = .ok v w) : OpP P o g G (.fz (.lit v)) :=
  .of fun S m ac w hg ha => by
    have h1 := (hx.rep hg (by simp [ho, Op.operands]) ha).lit
    have h2 := (hy.rep hg (by simp [ho, Op.operands]) ha).lit
    refine ⟨v, ?_, .fz _ _ (.lit _)⟩
    have he : ∀ op, (eqGuard op t x y (.int k a) (.int k b)) = pure () := fun op => by unfold eqGuard; cases op <;> simp
    simp [execOp, ho, h1, h2, he, h w hg]

theorem op_add (ho : o.op = .binOp .add t x y t') (hx : Opd G g x (IV k a)) (hy : Opd G g y (IV k b)) (h : g = true → inr k (a + b)) : OpP P o g G (IV k (a + b)) :=
  op_bin ho hx hy (by simp) (by simp) fun w hg => by simp [binOp, Op.intArith, wrap_of (h hg)]
theorem op_sub (ho : o.op = .binOp .sub t x y t') (hx : Opd G g x (IV k a)) (hy : Opd G g y (IV k b)) (h : g = true → inr k (a - b)) : OpP P o g G (IV k (a - b)) :=
  op_bin ho hx hy (by simp) (by simp) fun w hg => by simp [binOp, Op.intArith, wrap_of (h hg)]
theorem op_mul (ho : o.op = .binOp .mul t x y t') (hx : Opd G g x (IV k a)) (hy : Opd G g y (IV k b)) (h : g = true → inr k (a * b)) : OpP P o g G (IV k (a * b)) :=
  op_bin ho hx hy (by simp) (by simp) fun w hg => by simp [binOp, Op.intArith, wrap_of (h hg)]
theorem op_quo (ho : o.op = .binOp .quo t x y t') (hx : Opd G g x (IV k a)) (hy : Opd G g y (IV k b)) (h : g = true → 0 ≤ a ∧ 0 < b ∧ inr k (a / b)) : OpP P o g G (IV k (a / b)) :=
  op_bin ho hx hy (by simp) (by simp) fun w hg => by
    obtain ⟨h1, h2, h3⟩ := h hg
    have : b ≠ 0 := by omega
    simp [binOp, Op.intDiv, this, Int.tdiv_eq_ediv_of_nonneg h1, wrap_of h3]
theorem op_rem (ho : o.op = .binOp .rem t x y t') (hx : Opd G g x (IV k a)) (hy : Opd G g y (IV k b)) (h : g = true → 0 ≤ a ∧ 0 < b) : OpP P o g G (IV k (a % b)) :=
  op_bin ho hx hy (by simp) (by simp) fun w hg => by
    obtain ⟨h1, h2⟩ := h hg
    have : b ≠ 0 := by omega
    simp [binOp, Op.intDiv, this, Int.tmod_eq_emod_of_nonneg h1]
theorem op_lss (ho : o.op = .binOp .lss t x y t') (hx : Opd G g x (IV k a)) (hy : Opd G g y (IV k b)) : OpP P o g G (BV (decide (a < b))) :=
  op_bin ho hx hy (by simp) (by simp) fun w _ => by simp [binOp, Op.intCmp]
theorem op_leq (ho : o.op = .binOp .leq t x y t') (hx : Opd G g x (IV k a)) (hy : Opd G g y (IV k b)) : OpP P o g G (BV (decide (a ≤ b))) :=
  op_bin ho hx hy (by simp) (by simp) fun w _ => by simp [binOp, Op.intCmp]
theorem op_gtr (ho : o.op = .binOp .gtr t x y t') (hx : Opd G g x (IV k a)) (hy : Opd G g y (IV k b)) : OpP P o g G (BV (decide (b < a))) :=
  op_bin ho hx hy (by simp) (by simp) fun w _ => by simp [binOp, Op.intCmp]
theorem op_geq (ho : o.op = .binOp .geq t x y t') (hx : Opd G g x (IV k a)) (hy : Opd G g y (IV k b)) : OpP P o g G (BV (decide (b ≤ a))) :=
  op_bin ho hx hy (by simp) (by simp) fun w _ => by simp [binOp, Op.intCmp]
theorem op_eql (ho : o.op = .binOp .eql t x y t') (hx : Opd G g x (IV k a)) (hy : Opd G g y (IV k b)) : OpP P o g G (BV (decide (a = b))) :=
  op_bin ho hx hy (by simp) (by simp) fun w _ => by simp [binOp, Op.intCmp]; rfl
theorem op_neq (ho : o.op = .binOp .neq t x y t') (hx : Opd G g x (IV k a)) (hy : Opd G g y (IV k b)) : OpP P o g G (BV (decide (a ≠ b))) :=
  op_bin ho hx hy (by simp) (by simp) fun w _ => by simp [binOp, Op.intCmp]; rfl

theorem run_shr {k yk : IntKind} {a : Int} {n : Nat} (w : World) (hn : n ≤ k.bits) : (binOp .shr t (.int k a) (.int yk n)).run P w = .ok (.int k (a / 2 ^ n)) w := by
  have h0 : ¬ ((n : Int) < 0) := by omega
  simp only [binOp, Op.shift, h0, if_false, Int.toNat_natCast, Nat.min_eq_left hn, Int.fdiv_eq_ediv_of_nonneg a (Int.le_of_lt (Int.pow_pos (by decide : (0:Int) < 2)))]; rfl
theorem run_shl {k yk : IntKind} {a : Int} {n : Nat} (w : World) (hn : n ≤ k.bits) : (binOp .shl t (.int k a) (.int yk n)).run P w = .ok (.int k (k.wrap (a * 2 ^ n))) w := by
  have h0 : ¬ ((n : Int) < 0) := by omega
  simp [binOp, Op.shift, h0, Nat.min_eq_left hn]
theorem op_shr {yk : IntKind} {n : Nat} {c : Int} (ho : o.op = .binOp .shr t x y t') (hx : Opd G g x (IV k a)) (hy : Opd G g y (IV yk c)) (hn : g = true → c = n ∧ n ≤ k.bits) : OpP P o g G (IV k (a / 2 ^ n)) :=
  .of fun S m ac w hg ha => by
    have h1 := (hx.rep hg (by simp [ho, Op.operands]) ha).lit
    have h2 := (hy.rep hg (by simp [ho, Op.operands]) ha).lit
    obtain ⟨h3, h4⟩ := hn hg
    refine ⟨_, ?_, .fz _ _ (.lit _)⟩
    simp [execOp, ho, h1, h2, eqGuard, h3, run_shr w h4]
theorem op_shlw {yk : IntKind} {n : Nat} {c : Int} (ho : o.op = .binOp .shl t x y t') (hx : Opd G g x (IV k a)) (hy : Opd G g y (IV yk c)) (hn : g = true → c = n ∧ n ≤ k.bits) : OpP P o g G (IV k (k.wrap (a * 2 ^ n))) :=
  .of fun S m ac w hg ha => by
    have h1 := (hx.rep hg (by simp [ho, Op.operands]) ha).lit
    have h2 := (hy.rep hg (by simp [ho, Op.operands]) ha).lit
    obtain ⟨h3, h4⟩ := hn hg
    refine ⟨_, ?_, .fz _ _ (.lit _)⟩
    simp [execOp, ho, h1, h2, eqGuard, h3, run_shl w h4]
/-- bit by bit, on natural numbers below 2 to the kind's bits -/
theorem op_bits {op : BinOp} {n m : Nat} {f : Nat → Nat → Nat} (ho : o.op = .binOp op t x y t') (hx : Opd G g x (IV k n)) (hy : Opd G g y (IV k m))
    (hf : (op = .and ∧ f = (· &&& ·)) ∨ (op = .or ∧ f = (· ||| ·)) ∨ (op = .xor ∧ f = (· ^^^ ·))) (hb : g = true → n < 2 ^ k.bits ∧ m < 2 ^ k.bits) (hr : g = true → inr k (f n m : Nat)) : OpP P o g G (IV k (f n m : Nat)) :=
  op_bin ho hx hy (by rintro rfl; simp at hf) (by rintro rfl; simp at hf) fun w hg => by
    obtain ⟨h1, h2⟩ := hb hg
    have h3 := wrap_of (hr hg)
    have e1 : (BitVec.ofInt k.bits (n : Int)).toNat = n := by rw [BitVec.ofInt_natCast, BitVec.toNat_ofNat, Nat.mod_eq_of_lt h1]
    have e2 : (BitVec.ofInt k.bits (m : Int)).toNat = m := by rw [BitVec.ofInt_natCast, BitVec.toNat_ofNat, Nat.mod_eq_of_lt h2]
    rcases hf with ⟨rfl, rfl⟩ | ⟨rfl, rfl⟩ | ⟨rfl, rfl⟩
    · simp only [binOp, Op.intBits, BitVec.toNat_and, e1, e2]; simp [h3]
    · simp only [binOp, Op.intBits, BitVec.toNat_or, e1, e2]; simp [h3]
    · simp only [binOp, Op.intBits, BitVec.toNat_xor, e1, e2]; simp [h3]

theorem op_not {b : Bool} (ho : o.op = .unOp .not t x) (hx : Opd G g x (BV b)) : OpP P o g G (BV (!b)) :=
  .of fun S m ac w hg ha => by
    have h1 := (hx.rep hg (by simp [ho, Op.operands]) ha).lit
    exact ⟨_, by simp [execOp, ho, h1, Op.unary], .fz _ _ (.lit _)⟩
theorem op_convw {k' : IntKind} {d : TypeDesc} [hd : TyD P t d] [hd' : TyD P t' (.int k')] (ho : o.op = .convert t t' x) (hx : Opd G g x (IV k a)) : OpP P o g G (IV k' (k'.wrap a)) :=
  .of fun S m ac w hg ha => by
    have h1 := (hx.rep hg (by simp [ho, Op.operands]) ha).lit
    refine ⟨_, ?_, .fz _ _ (.lit _)⟩
    cases d <;> simp [execOp, ho, h1, convert, run_underlying hd.h, run_underlying hd'.h, Conv.intToInt]
theorem op_conv {k' : IntKind} {d : TypeDesc} [hd : TyD P t d] [hd' : TyD P t' (.int k')] (ho : o.op = .convert t t' x) (hx : Opd G g x (IV k a)) (h : g = true → inr k' a) : OpP P o g G (IV k' a) :=
  .of fun S m ac w hg ha => by
    have h1 := (hx.rep hg (by simp [ho, Op.operands]) ha).lit
    refine ⟨_, ?_, .fz _ _ (.lit _)⟩
    cases d <;> simp [execOp, ho, h1, convert, run_underlying hd.h, run_underlying hd'.h, Conv.intToInt, wrap_of (h hg)]

theorem op_max {ts : Array TypeId} (ho : o.op = .call { callee := .builtin .max, args := #[x, y], argTypes := ts }) (hx : Opd G g x (IV k a)) (hy : Opd G g y (IV k b)) : OpP P o g G (IV k (max a b)) :=
  .of fun S m ac w hg ha => by
    have h1 := (hx.rep hg (by simp [ho, Op.operands, Call.operands]) ha).lit
    have h2 := (hy.rep hg (by simp [ho, Op.operands, Call.operands]) ha).lit
    refine ⟨.int k (if b > a then b else a), by simp [execOp, ho, h1, h2, resolve, invoke, builtin, Builtin.max_, Builtin.max2], ?_⟩
    have : max a b = if b > a then b else a := by rw [Int.max_def]; split <;> split <;> omega
    rw [this]; exact .fz _ _ (.lit _)
theorem op_min {ts : Array TypeId} (ho : o.op = .call { callee := .builtin .min, args := #[x, y], argTypes := ts }) (hx : Opd G g x (IV k a)) (hy : Opd G g y (IV k b)) : OpP P o g G (IV k (min a b)) :=
  .of fun S m ac w hg ha => by
    have h1 := (hx.rep hg (by simp [ho, Op.operands, Call.operands]) ha).lit
    have h2 := (hy.rep hg (by simp [ho, Op.operands, Call.operands]) ha).lit
    refine ⟨.int k (if b < a then b else a), by simp [execOp, ho, h1, h2, resolve, invoke, builtin, Builtin.min_, Builtin.min2], ?_⟩
    have : min a b = if b < a then b else a := by rw [Int.min_def]; split <;> split <;> omega
    rw [this]; exact .fz _ _ (.lit _)
end
end
end Go.RT
/- The engine, part 7: rules for memory: frozen reads, owned objects read, written, made, grown. -/
namespace Go.RT
set_option linter.all false

inductive Tk {α : Type} : List α → Nat → List α → Prop where
  | z (l : List α) : Tk l 0 []
  | s (a : α) (l : List α) (n : Nat) (t : List α) : Tk l n t → Tk (a :: l) (n + 1) (a :: t)
inductive Dr {α : Type} : List α → Nat → List α → Prop where
  | z (l : List α) : Dr l 0 l
  | s (a : α) (l : List α) (n : Nat) (t : List α) : Dr l n t → Dr (a :: l) (n + 1) t
/-- z with cs written at off -/
inductive Sp {α : Type} : List α → Nat → List α → List α → Prop where
  | z (l : List α) : Sp l 0 [] l
  | w (a c : α) (l cs t : List α) : Sp l 0 cs t → Sp (a :: l) 0 (c :: cs) (c :: t)
  | s (a : α) (l : List α) (n : Nat) (cs t : List α) : Sp l n cs t → Sp (a :: l) (n + 1) cs (a :: t)
theorem Tk.eq {α : Type} {l t : List α} {n : Nat} (h : Tk l n t) : t = l.take n ∧ n ≤ l.length := by
  induction h with
  | z l => simp
  | s a l n t _ ih => exact ⟨by simp [ih.1], by simp [ih.2]⟩
theorem Dr.eq {α : Type} {l t : List α} {n : Nat} (h : Dr l n t) : t = l.drop n ∧ n ≤ l.length := by
  induction h with
  | z l => simp
  | s a l n t _ ih => exact ⟨by simp [ih.1], by simp [ih.2]⟩
theorem Sp.get {α : Type} {l cs t : List α} {n : Nat} (h : Sp l n cs t) : t.length = l.length ∧ n + cs.length ≤ l.length ∧ ∀ j, t[j]? = if n ≤ j ∧ j < n + cs.length then cs[j - n]? else l[j]? := by
  induction h with
  | z l => exact ⟨rfl, by simp, fun j => by rw [if_neg (by simp)]⟩
  | w a c l cs t _ ih =>
    obtain ⟨h1, h2, h3⟩ := ih
    refine ⟨by simp [h1], by simp at h2 ⊢; omega, fun j => ?_⟩
    cases j with
    | zero => simp
    | succ j =>
      rw [List.getElem?_cons_succ, h3 j]
      simp only [List.length_cons, Nat.zero_le, true_and, Nat.zero_add, Nat.sub_zero, Nat.add_lt_add_iff_right, List.getElem?_cons_succ]
  | s a l n cs t _ ih =>
    obtain ⟨h1, h2, h3⟩ := ih
    refine ⟨by simp [h1], by simp; omega, fun j => ?_⟩
    cases j with
    | zero => simp
    | succ j =>
      rw [List.getElem?_cons_succ, h3 j, List.getElem?_cons_succ]
      by_cases hc : n ≤ j ∧ j < n + cs.length
      · rw [if_pos hc, if_pos (by omega), Nat.add_sub_add_right]
      · rw [if_neg hc, if_neg (by omega)]

theorem add_none (b o n : Nat) : (⟨b, o, none⟩ : Addr).add n = ⟨b, o + n, none⟩ := Addr.add_lit b o n

theorem fz_alloc (w : World) (c : Array Value) (e : TypeId) (a : Addr) : (w.alloc (.cells c e (0, 0))).frozen? a = w.frozen? a := by
  by_cases h : a.block = w.heap.size
  · have e1 : (w.alloc (.cells c e)).heap[a.block]? = some (.cells c e (0, 0)) := by rw [h]; exact heap_alloc_new w _
    have e2 : w.heap[a.block]? = none := by rw [h]; simp
    simp [World.frozen?, e1, e2]
  · exact World.frozen?_alloc_old _ _ _ h
theorem fz_setRow {w : World} {b : Nat} {c c' : Array Value} {e : TypeId} {fr : Nat × Nat} (hb : w.heap[b]? = some (.cells c e fr)) (a : Addr) : (w.setRow b c').frozen? a = w.frozen? a := by
  by_cases h : a.block = b
  · have e1 := setRow_heap w b c c' e fr hb
    subst h
    simp [World.frozen?, e1, hb]
  · simp [World.frozen?, setRow_other w b a.block c' h]

/-! ## the three changes of memory -/
def setM (m : Ids) (i : Nat) (x : Option Nat) : Ids := fun j => if j = i then some x else m j
theorem setM_self (m : Ids) (i : Nat) (x : Option Nat) : setM m i x i = some x := by simp [setM]
theorem setM_other {m : Ids} {i j : Nat} {x : Option Nat} (h : j ≠ i) : setM m i x j = m j := by simp [setM, h]

/-- a new object -/
theorem Mem.new {C : Cx} {H : Hp} {nx : Nat} {S : Nat → Prop} {m : Ids} {w : World} (hm : Mem C H nx S m w) (c : Array Value) (e : TypeId) (o : Ob) (hpl : o.plain)
    (ho : ∀ w' m', Le S m w S m' w' → w'.heap[w.heap.size]? = some (.cells c e (0, 0)) → m' nx = some (some w.heap.size) → ORep w' S m' nx o) :
    Mem C ((nx, some o) :: H) (nx + 1) S (setM m nx (some w.heap.size)) (w.alloc (.cells c e)) ∧ Le S m w S (setM m nx (some w.heap.size)) (w.alloc (.cells c e)) ∧ (w.alloc (.cells c e)).heap[w.heap.size]? = some (.cells c e (0, 0)) := by
  have hnew : (w.alloc (.cells c e)).heap[w.heap.size]? = some (.cells c e (0, 0)) := heap_alloc_new w _
  have hold : ∀ b, b < w.heap.size → (w.alloc (.cells c e)).heap[b]? = w.heap[b]? := fun b hb => RowKit.Below.heap_alloc w _ b hb
  have hids : ∀ i x, m i = some x → i ≠ nx := fun i x hi => by have := hm.lt hi; omega
  have hle : Le S m w S (setM m nx (some w.heap.size)) (w.alloc (.cells c e)) := by
    refine ⟨fun _ h => h, fun b hb => hold b (hm.stab b hb), fun i x hi => by rw [setM_other (hids i x hi)]; exact hi, fun b n hr => ?_⟩
    obtain ⟨c', e', fr, h1, h2⟩ := hr
    have : b < w.heap.size := (Array.getElem?_eq_some_iff.1 h1).1
    exact ⟨c', e', fr, (hold b this).trans h1, h2⟩
  refine ⟨hm.step hle ⟨rfl, Nat.le_refl _⟩ rfl rfl (fun a _ => fz_alloc w c e a) (by simp) (fun b hb _ => hold b (Nat.lt_of_lt_of_le hb hm.size)) (fun b hb => .inl hb) (fun id o' ho' => ?_) (fun id o' b ho' hb => ?_) (fun id id' o' o'' b h1 h2 h3 h4 => ?_) (fun b hb => ?_) (fun i hi => ?_) ?_, hle, hnew⟩
  · rw [hlook_cons] at ho'
    by_cases hid : nx = id
    · rw [if_pos hid] at ho'; cases ho'; subst hid
      exact ho _ _ hle hnew (setM_self _ _ _)
    · rw [if_neg hid] at ho'
      exact (hm.objs id o' ho').mono hle fun b hb => hold b (hm.blk id o' b ho' hb).2.1
  · rw [hlook_cons] at ho'
    by_cases hid : nx = id
    · subst hid
      rw [setM_self] at hb; cases hb
      exact ⟨fun h => Nat.lt_irrefl _ (hm.stab _ h), by simp, .inl hm.size⟩
    · rw [if_neg hid] at ho'
      rw [setM_other (fun h => hid h.symm)] at hb
      obtain ⟨h1, h2, h3⟩ := hm.blk id o' b ho' hb
      exact ⟨h1, by simp; omega, h3⟩
  · rw [hlook_cons] at h1 h2
    by_cases ha : nx = id <;> by_cases hb : nx = id'
    · exact ha.symm.trans hb
    · subst ha
      rw [if_neg hb] at h2
      rw [setM_self] at h3; cases h3
      rw [setM_other (fun h => hb h.symm)] at h4
      exact absurd (hm.blk id' o'' _ h2 h4).2.1 (Nat.lt_irrefl _)
    · subst hb
      rw [if_neg ha] at h1
      rw [setM_self] at h4; cases h4
      rw [setM_other (fun h => ha h.symm)] at h3
      exact absurd (hm.blk id o' _ h1 h3).2.1 (Nat.lt_irrefl _)
    · rw [if_neg ha] at h1; rw [if_neg hb] at h2
      rw [setM_other (fun h => ha h.symm)] at h3; rw [setM_other (fun h => hb h.symm)] at h4
      exact hm.inj id id' o' o'' b h1 h2 h3 h4
  · have := hm.stab b hb; simp; omega
  · rw [setM_other (by omega)]; exact hm.fresh i (by omega)
  · have hOE : ∀ id sz i j isz irows, OwnE ((nx, some o) :: H) id sz i j isz irows → OwnE H id sz i j isz irows := fun id sz i j isz irows hO => by
      by_cases hid : nx = id
      · exact (hO.notPlain (o := o) (by rw [hlook_cons, if_pos hid]) hpl).elim
      · exact hO.of fun o2 h => by rwa [hlook_cons, if_neg hid] at h
    refine hm.nkeep hle (by simp) hOE (fun id sz i j isz irows b c2 e2 u hO k1 k2 k3 => ⟨c2, e2, (hold b (Array.getElem?_eq_some_iff.1 k2).1).trans k2, k3⟩) (fun b' h1 h2 h3 => ⟨hold b' h1, h2, fun id2 o2 ho2 hc => ?_⟩)
    rw [hlook_cons] at ho2
    by_cases hid : nx = id2
    · subst hid; rw [setM_self] at hc; cases hc; exact Nat.lt_irrefl _ h1
    · rw [if_neg hid] at ho2; rw [setM_other (fun h => hid h.symm)] at hc; exact h3 _ _ ho2 hc

/-- a new block that is frozen at once -/
theorem Mem.newF {C : Cx} {H : Hp} {nx : Nat} {S : Nat → Prop} {m : Ids} {w : World} (hm : Mem C H nx S m w) (c : Array Value) (e : TypeId) :
    Mem C H nx (fun b => S b ∨ b = w.heap.size) m (w.alloc (.cells c e)) ∧ Le S m w (fun b => S b ∨ b = w.heap.size) m (w.alloc (.cells c e)) ∧ (w.alloc (.cells c e)).heap[w.heap.size]? = some (.cells c e (0, 0)) := by
  have hnew : (w.alloc (.cells c e)).heap[w.heap.size]? = some (.cells c e (0, 0)) := heap_alloc_new w _
  have hold : ∀ b, b < w.heap.size → (w.alloc (.cells c e)).heap[b]? = w.heap[b]? := fun b hb => RowKit.Below.heap_alloc w _ b hb
  have hle : Le S m w (fun b => S b ∨ b = w.heap.size) m (w.alloc (.cells c e)) := by
    refine ⟨fun _ h => .inl h, fun b hb => hold b (hm.stab b hb), fun i x hi => hi, fun b n hr => ?_⟩
    obtain ⟨c', e', fr, h1, h2⟩ := hr
    have : b < w.heap.size := (Array.getElem?_eq_some_iff.1 h1).1
    exact ⟨c', e', fr, (hold b this).trans h1, h2⟩
  refine ⟨hm.step hle ⟨rfl, Nat.le_refl _⟩ rfl rfl (fun a _ => fz_alloc w c e a) (by simp) (fun b hb _ => hold b (Nat.lt_of_lt_of_le hb hm.size)) (fun b hb => ?_) (fun id o' ho' => ?_) (fun id o' b ho' hb => ?_) hm.inj (fun b hb => ?_) hm.fresh (hm.nkeep hle (by simp) (fun _ _ _ _ _ _ h => h) (fun id sz i j isz irows b c2 e2 u hO k1 k2 k3 => ⟨c2, e2, (hold b (Array.getElem?_eq_some_iff.1 k2).1).trans k2, k3⟩) (fun b' h1 h2 h3 => ⟨hold b' h1, fun h => h.elim h2 (fun h => by omega), h3⟩)), hle, hnew⟩
  · rcases hb with hb | rfl
    · exact .inl hb
    · exact .inr (.inr hm.size)
  · exact (hm.objs id o' ho').mono hle fun b hb => hold b (hm.blk id o' b ho' hb).2.1
  · obtain ⟨h1, h2, h3⟩ := hm.blk id o' b ho' hb
    refine ⟨?_, by simp; omega, h3⟩
    rintro (h | h)
    · exact h1 h
    · omega
  · rcases hb with hb | rfl
    · have := hm.stab b hb; simp; omega
    · simp

/-- an owned object rewritten in place -/
theorem Mem.write {C : Cx} {H : Hp} {nx : Nat} {S : Nat → Prop} {m : Ids} {w : World} (hm : Mem C H nx S m w) {id b : Nat} {o o' : Ob} (hid : hlook H id = some o) (hb : m id = some (some b)) {c c' : Array Value} {e : TypeId}
    (hc : w.heap[b]? = some (.cells c e (0, 0))) (hs : c'.size = c.size)
    (hown : ∀ sz rows i j r isz irows, o' = .refs sz rows → rows[i]? = some r → r[j]? = some (.own isz irows) → ∃ rows0 r0, o = .refs sz rows0 ∧ rows0[i]? = some r0 ∧ r0[j]? = some (.own isz irows) ∧ c'[i * sz + j]? = c[i * sz + j]?)
    (ho : ∀ w', Le S m w S m w' → w'.heap[b]? = some (.cells c' e (0, 0)) → ORep w' S m id o') :
    Mem C ((id, some o') :: H) nx S m (w.setRow b c') ∧ Le S m w S m (w.setRow b c') := by
  have hnew : (w.setRow b c').heap[b]? = some (.cells c' e (0, 0)) := setRow_heap w b c c' e _ hc
  have hold : ∀ k, k ≠ b → (w.setRow b c').heap[k]? = w.heap[k]? := fun k hk => setRow_other w b k c' hk
  obtain ⟨hS, hlt, hor⟩ := hm.blk id o b hid hb
  have hle : Le S m w S m (w.setRow b c') := by
    refine ⟨fun _ h => h, fun k hk => hold k (fun e => hS (e ▸ hk)), fun i x hi => hi, fun k n hr => ?_⟩
    obtain ⟨c1, e1, fr, h1, h2⟩ := hr
    by_cases hk : k = b
    · subst hk; rw [hc] at h1; cases h1; exact ⟨c', e, _, hnew, hs.trans h2⟩
    · exact ⟨c1, e1, fr, (hold k hk).trans h1, h2⟩
  refine ⟨hm.step hle ⟨rfl, Nat.le_refl _⟩ rfl rfl (fun a _ => fz_setRow hc a) (by simp) (fun k hk hno => hold k (fun e => ?_)) (fun b hb => .inl hb) (fun id' o2 ho2 => ?_) (fun id' o2 b2 ho2 hb2 => ?_) (fun i1 i2 o1 o2 b2 h1 h2 h3 h4 => ?_) (fun k hk => by have := hm.stab k hk; simpa using this) hm.fresh ?_, hle⟩
  · subst e; rcases hor with h | h
    · omega
    · exact hno h
  · rw [hlook_cons] at ho2
    by_cases hi : id = id'
    · rw [if_pos hi] at ho2; cases ho2; subst hi; exact ho _ hle hnew
    · rw [if_neg hi] at ho2
      exact (hm.objs id' o2 ho2).mono hle fun b2 hb2 => hold b2 (fun e => hi (hm.inj id id' o o2 b hid ho2 hb (e ▸ hb2)))
  · have : ∃ o3, hlook H id' = some o3 := by
      rw [hlook_cons] at ho2
      by_cases hi : id = id'
      · subst hi; exact ⟨_, hid⟩
      · rw [if_neg hi] at ho2; exact ⟨_, ho2⟩
    obtain ⟨o3, ho3⟩ := this
    obtain ⟨h1, h2, h3⟩ := hm.blk id' o3 b2 ho3 hb2
    exact ⟨h1, by simpa using h2, h3⟩
  · have ex : ∀ id' o2, hlook ((id, some o') :: H) id' = some o2 → ∃ o3, hlook H id' = some o3 := fun id' o2 ho2 => by
      rw [hlook_cons] at ho2
      by_cases hi : id = id'
      · subst hi; exact ⟨_, hid⟩
      · rw [if_neg hi] at ho2; exact ⟨_, ho2⟩
    obtain ⟨_, k1⟩ := ex i1 o1 h1
    obtain ⟨_, k2⟩ := ex i2 o2 h2
    exact hm.inj i1 i2 _ _ b2 k1 k2 h3 h4
  · have hOE : ∀ id' sz i j isz irows, OwnE ((id, some o') :: H) id' sz i j isz irows → OwnE H id' sz i j isz irows ∧ (id = id' → c'[i * sz + j]? = c[i * sz + j]?) := fun id' sz i j isz irows ⟨rows, r, h1, h2, h3⟩ => by
      rw [hlook_cons] at h1
      by_cases hi : id = id'
      · rw [if_pos hi] at h1
        obtain ⟨rows0, r0, q1, q2, q3, q4⟩ := hown sz rows i j r isz irows (Option.some.inj h1) h2 h3
        subst hi; subst q1
        exact ⟨⟨rows0, r0, hid, q2, q3⟩, fun _ => q4⟩
      · rw [if_neg hi] at h1; exact ⟨⟨rows, r, h1, h2, h3⟩, fun h => absurd h hi⟩
    refine hm.nkeep hle (by simp) (fun _ _ _ _ _ _ h => (hOE _ _ _ _ _ _ h).1) (fun id' sz i j isz irows b2 c2 e2 u hO k1 k2 k3 => ?_) (fun b' h1 h2 h3 => ⟨hold b' (fun e => h3 _ _ hid (e ▸ hb)), h2, fun id2 o2 ho2 => ?_⟩)
    · obtain ⟨⟨rows, r, q1, q2, q3⟩, q4⟩ := hOE _ _ _ _ _ _ hO
      by_cases hk : b2 = b
      · subst hk
        have := hm.inj _ _ _ _ _ hid q1 hb k1
        rw [hc] at k2; cases k2
        exact ⟨c', e, hnew, (q4 this).trans k3⟩
      · exact ⟨c2, e2, (hold b2 hk).trans k2, k3⟩
    · rw [hlook_cons] at ho2
      by_cases hi : id = id2
      · subst hi; exact h3 _ _ hid
      · rw [if_neg hi] at ho2; exact h3 _ _ ho2

/-- an owned object, with no cells that own slices, rewritten in place -/
theorem plain_hown {o o' : Ob} (hp : o'.plain) {c c' : Array Value} : ∀ sz rows i j r isz irows, o' = .refs sz rows → rows[i]? = some r → r[j]? = some (.own isz irows) → ∃ rows0 r0, o = .refs sz rows0 ∧ rows0[i]? = some r0 ∧ r0[j]? = some (.own isz irows) ∧ c'[i * sz + j]? = c[i * sz + j]? := fun sz rows i j r isz irows h1 h2 h3 => by
  subst h1; exact (hp r (List.mem_of_getElem? h2) _ (List.mem_of_getElem? h3) _ _ rfl).elim
/-- an owned object given up -/
theorem Mem.kill {C : Cx} {H : Hp} {nx : Nat} {S : Nat → Prop} {m : Ids} {w : World} (hm : Mem C H nx S m w) (id : Nat) : Mem C ((id, none) :: H) nx S m w := by
  have ex : ∀ id' o2, hlook ((id, none) :: H) id' = some o2 → hlook H id' = some o2 := fun id' o2 ho2 => by
    rw [hlook_cons] at ho2
    by_cases hi : id = id'
    · rw [if_pos hi] at ho2; cases ho2
    · rw [if_neg hi] at ho2; exact ho2
  exact hm.step (Le.refl _ _ _) ⟨rfl, Nat.le_refl _⟩ rfl rfl (fun _ _ => rfl) (Nat.le_refl _) (fun _ _ _ => rfl) (fun _ h => .inl h) (fun i o h => hm.objs i o (ex i o h)) (fun i o b h => hm.blk i o b (ex i o h))
    (fun i1 i2 o1 o2 b h1 h2 => hm.inj i1 i2 o1 o2 b (ex _ _ h1) (ex _ _ h2)) hm.stab hm.fresh
    (hm.nkeep (Le.refl _ _ _) (Nat.le_refl _) (fun _ _ _ _ _ _ h => h.of fun o h => ex _ _ h) (fun _ _ _ _ _ _ _ c e _ _ _ k2 k3 => ⟨c, e, k2, k3⟩) (fun b' _ h2 h3 => ⟨rfl, h2, fun id2 o2 h => h3 _ _ (ex _ _ h)⟩))

/-! ## values and cells -/
def oneF : FV → Bool
  | .lit v => v.oneCell'
  | .agg _ => false
  | .tup _ => false
  | _ => true
def oneP : PV → Bool
  | .fz f => oneF f
  | .sl _ _ _ _ => true
  | .ptr _ _ _ _ => true
  | .clo _ _ _ => true
  | .mp _ => true
  | .wc _ _ => true
  | _ => false
def noOwn : PV → Bool
  | .own _ _ => false
  | _ => true
theorem oneF_spec {w : World} {S : Nat → Prop} {v : Value} {f : FV} (h : FRep w S v f) (h1 : oneF f = true) : v.oneCell' = true := by
  cases h <;> first | exact h1 | rfl | cases h1
theorem oneP_spec {w : World} {S : Nat → Prop} {m : Ids} {v : Value} {p : PV} (h : Rep w S m v p) (h1 : oneP p = true) : v.oneCell' = true := by
  cases h with
  | fz _ _ h => exact oneF_spec h h1
  | agg => cases h1
  | tup => cases h1
  | opt => cases h1
  | any => cases h1
  | ab => cases h1
  | own => cases h1
  | _ => rfl
theorem cells_one {v : Value} (h : v.oneCell' = true) : v.cells = #[v] := by
  cases v <;> first | rfl | cases h

/-- the cells of a value that reads as0 p: those of the list -/
inductive Cells : PV → List PV → Prop where
  | one (p : PV) : oneP p = true → Cells p [p]
  | aggF (fs : List FV) (ps : List PV) : ps = fs.map PV.fz → Cells (.fz (.agg fs)) ps
  | agg (ps : List PV) : ps.all noOwn = true → Cells (.agg ps) ps
theorem Cells.noOwn {p : PV} {ps : List PV} (h : Cells p ps) : ∀ q ∈ ps, ∀ a b, q ≠ .own a b := by
  intro q hq a b e
  subst e
  cases h with
  | one _ h1 => rw [List.mem_singleton] at hq; subst hq; cases h1
  | aggF fs _ e => subst e; simp at hq
  | agg _ h => have := List.all_eq_true.1 h _ hq; cases this
inductive CellsF : FV → List FV → Prop where
  | one (f : FV) : oneF f = true → CellsF f [f]
  | agg (fs : List FV) : CellsF (.agg fs) fs

theorem CellsF.rep {w : World} {S : Nat → Prop} {v : Value} {f : FV} {fs : List FV} (hc : CellsF f fs) (h : FRep w S v f) :
    v.cells.size = fs.length ∧ (∀ (i : Nat) (f : FV), fs[i]? = some f → ∃ u, v.cells[i]? = some u ∧ u.oneCell' = true ∧ FRep w S u f) := by
  cases hc with
  | one _ h1 =>
    have := oneF_spec h h1
    rw [cells_one this]
    refine ⟨rfl, fun i f' hf => ?_⟩
    match i with
    | 0 => simp at hf; subst hf; exact ⟨v, rfl, this, h⟩
    | i + 1 => simp at hf
  | agg =>
    cases h with
    | agg cs _ hl h h1 =>
      refine ⟨hl, fun i f hf => ?_⟩
      have hi : i < cs.size := by rw [hl]; exact (List.getElem?_eq_some_iff.1 hf).1
      exact ⟨cs[i], by simp [Value.cells, hi], h1 i _ (by simp [hi]), h i _ f (by simp [hi]) hf⟩

theorem Cells.rep {w : World} {S : Nat → Prop} {m : Ids} {v : Value} {p : PV} {ps : List PV} (hc : Cells p ps) (h : Rep w S m v p) :
    v.cells.size = ps.length ∧ (∀ (i : Nat) (p : PV), ps[i]? = some p → ∃ u, v.cells[i]? = some u ∧ u.oneCell' = true ∧ Rep w S m u p) := by
  cases hc with
  | one _ h1 =>
    have := oneP_spec h h1
    rw [cells_one this]
    refine ⟨rfl, fun i f' hf => ?_⟩
    match i with
    | 0 => simp at hf; subst hf; exact ⟨v, rfl, this, h⟩
    | i + 1 => simp at hf
  | aggF fs _ e =>
    subst e
    obtain ⟨h1, h2⟩ := (CellsF.agg fs).rep h.frz
    refine ⟨by simpa using h1, fun i p hp => ?_⟩
    rw [List.getElem?_map] at hp
    obtain ⟨f, hf, rfl⟩ := Option.map_eq_some_iff.1 hp
    obtain ⟨u, hu, ho, hr⟩ := h2 i f hf
    exact ⟨u, hu, ho, .fz _ _ hr⟩
  | agg =>
    cases h with
    | agg cs _ hl h h1 =>
      refine ⟨hl, fun i f hf => ?_⟩
      have hi : i < cs.size := by rw [hl]; exact (List.getElem?_eq_some_iff.1 hf).1
      exact ⟨cs[i], by simp [Value.cells, hi], h1 i _ (by simp [hi]), h i _ f (by simp [hi]) hf⟩

/-- one row, read off one value's cells -/
theorem rowsRep_one {α : Type} {R : Value → α → Prop} {c : Array Value} {ps : List α} (hl : c.size = ps.length) (h : ∀ (i : Nat) (p : α), ps[i]? = some p → ∃ u, c[i]? = some u ∧ u.oneCell' = true ∧ R u p) : RowsRep R c ps.length [ps] := by
  refine ⟨by simp [hl], by simp, fun i j r p hi hj => ?_⟩
  match i with
  | 0 => simp at hi; subst hi; simpa using h j p hj
  | i + 1 => simp at hi

def isAggD : TypeDesc → Bool
  | .struct _ => true
  | .array _ _ => true
  | _ => false
/-- is the type a struct or an array? -/
class TyA (P : Program) (t : TypeId) (b : outParam Bool) : Prop where
  h : ∃ d, P.underlying t = some d ∧ isAggD d = b
theorem run_isAgg {P : Program} {t : TypeId} {b : Bool} (h : TyA P t b) (w : World) : (isAgg t).run P w = .ok b w := by
  obtain ⟨d, hd, rfl⟩ := h.h
  simp only [isAgg, Sem.run_bind, run_underlying hd, Result.andThen_ok]
  cases d <;> rfl
theorem run_size {P : Program} {t : TypeId} {sz by_ : Nat} {z : Value} (h : TyN P t sz by_ z) (w : World) : (sizeOf t).run P w = .ok sz w := by
  obtain ⟨i, hi, h1, _⟩ := h.h
  rw [run_sizeOf w hi]; simp [Program.cellsOf, hi, h1]
theorem run_zero {P : Program} {t : TypeId} {sz by_ : Nat} {z : Value} (h : TyN P t sz by_ z) (w : World) : (zeroValue t).run P w = .ok z w := by
  obtain ⟨i, hi, _, _, h3⟩ := h.h
  simp [zeroValue, run_typeInfo w hi, h3]
end Go.RT
/- The engine, part 8: the rules for memory, operation by operation. -/
namespace Go.RT
set_option linter.all false

section
variable {P : Program} {o : Oper} {g : Bool} {G : Env} {x y : Operand} {t : TypeId} {H : Hp} {nx : Nat}

theorem OpS.of {p : PV} (h : ∀ (C : Cx) (S : Nat → Prop) (m : Ids) (a : Act) (w : World), Mem C H nx S m w → g = true → (∀ t q, t ∈ opTmps o → look G t = some q → RepAt w S m a t q) → ∃ v, (execOp a.eval o).run P w = .ok (.value v) w ∧ Rep w S m v p) : OpS P o g G H nx p H nx :=
  ⟨fun C S m a w hm hg ha K Q hK => by
    obtain ⟨v, hv, hr⟩ := h C S m a w hm hg ha
    exact wp_value hv (hK v w S m hm (Le.refl _ _ _) hr)⟩

/-! len -/
theorem op_len_fz {sz n : Nat} {rows : List (List FV)} {e : TypeId} [hd : TyD P t (.slice e)] (ho : o.op = .call { callee := .builtin .len, args := #[x], argTypes := #[t] }) (hx : Opd G g x (.fz (.vals sz rows))) (hn : rows.length = n) : OpP P o g G (IV .i64 n) :=
  .of fun S m a w hg ha => by
    have h1 := (hx.rep hg (by simp [ho, Op.operands, Call.operands]) ha).frz
    subst hn
    refine ⟨.int .i64 rows.length, ?_, .fz _ _ (.lit _)⟩
    generalize hv : a.eval x = v at h1
    cases h1 with
    | nil => simp [execOp, ho, hv, resolve, invoke, builtin, Builtin.len_, run_underlying hd.h, goInt]
    | vals => simp [execOp, ho, hv, resolve, invoke, builtin, Builtin.len_, run_underlying hd.h, goInt]
theorem op_len_sl {id sz lo n : Nat} {e : TypeId} [hd : TyD P t (.slice e)] (ho : o.op = .call { callee := .builtin .len, args := #[x], argTypes := #[t] }) (hx : Opd G g x (.sl id sz lo n)) : OpP P o g G (IV .i64 n) :=
  .of fun S m a w hg ha => by
    have h1 := hx.rep hg (by simp [ho, Op.operands, Call.operands]) ha
    refine ⟨.int .i64 n, ?_, .fz _ _ (.lit _)⟩
    generalize hv : a.eval x = v at h1
    cases h1 with
    | sl0 => simp [execOp, ho, hv, resolve, invoke, builtin, Builtin.len_, run_underlying hd.h, goInt]
    | sl => simp [execOp, ho, hv, resolve, invoke, builtin, Builtin.len_, run_underlying hd.h, goInt]
/-! addresses -/
theorem op_idx_fz {sz by_ : Nat} {z : Value} {rows : List (List FV)} {r : List FV} {e : TypeId} {k : IntKind} {i : Int} (n : Nat) [hd : TyD P t (.slice e)] [hn : TyN P e sz by_ z] (ho : o.op = .indexAddr t x y) (hx : Opd G g x (.fz (.vals sz rows))) (hy : Opd G g y (IV k i))
    (h : g = true → i = n ∧ rows[n]? = some r) : OpP P o g G (.fz (.cellp r)) :=
  .of fun S m a w hg ha => by
    have h1 := (hx.rep hg (by simp [ho, Op.operands]) ha).frz
    have h2 := (hy.rep hg (by simp [ho, Op.operands]) ha).lit
    obtain ⟨rfl, hr⟩ := h hg
    have hlt : n < rows.length := (List.getElem?_eq_some_iff.1 hr).1
    generalize hv : a.eval x = v at h1
    cases h1 with
    | nil => simp at hlt
    | vals b off cap _ _ U hS hcap hsz hU hR =>
      refine ⟨.pointer (some ⟨b, off + n * sz, none⟩), ?_, .fz _ _ (.cellp b _ r (fun j => U n j) hS (fun j f hf => ?_) (fun j f hf => hR n j r f hr hf))⟩
      · simp [execOp, ho, hv, h2, Instr.indexAt, asIntOf, run_underlying hd.h, hlt, run_size hn, add_none]
      · rw [Nat.add_assoc]; exact hU n j r f hr hf
theorem op_idx_sl {id sz lo len by_ : Nat} {z : Value} {e : TypeId} {k : IntKind} {i : Int} (n : Nat) [hd : TyD P t (.slice e)] [hn : TyN P e sz by_ z] (ho : o.op = .indexAddr t x y) (hx : Opd G g x (.sl id sz lo len)) (hy : Opd G g y (IV k i))
    (h : g = true → i = n ∧ n < len) : OpP P o g G (.ptr id sz (lo + n) 0) :=
  .of fun S m a w hg ha => by
    have h1 := hx.rep hg (by simp [ho, Op.operands]) ha
    have h2 := (hy.rep hg (by simp [ho, Op.operands]) ha).lit
    obtain ⟨rfl, hlt⟩ := h hg
    generalize hv : a.eval x = v at h1
    cases h1 with
    | sl0 => simp at hlt
    | sl _ _ _ _ b cap hb hr hc hm =>
      refine ⟨.pointer (some ⟨b, (lo + n) * sz + 0, none⟩), ?_, .ptr _ _ _ _ b hb⟩
      simp [execOp, ho, hv, h2, Instr.indexAt, asIntOf, run_underlying hd.h, hlt, run_size hn, add_none, Nat.add_mul]
theorem op_idx_sl0 {id sz len by_ : Nat} {z : Value} {e : TypeId} {k : IntKind} {i : Int} (n : Nat) [hd : TyD P t (.slice e)] [hn : TyN P e sz by_ z] (ho : o.op = .indexAddr t x y) (hx : Opd G g x (.sl id sz 0 len)) (hy : Opd G g y (IV k i))
    (h : g = true → i = n ∧ n < len) : OpP P o g G (.ptr id sz n 0) := by
  have := op_idx_sl (P := P) n ho hx hy h
  rwa [Nat.zero_add] at this

class TyF (P : Program) (t : TypeId) (i : Nat) (off : outParam Nat) (ft : outParam TypeId) : Prop where
  h : ∃ fs f, P.underlying t = some (.struct fs) ∧ fs[i]? = some f ∧ f.offset = off ∧ f.type = ft

theorem run_fieldPlace {P : Program} {ft : TypeId} {sz by_ : Nat} {z : Value} (hn : TyN P ft sz by_ z) (h0 : 0 < sz) {f : Field} (hf : f.type = ft) (ad : Addr) (w : World) : (fieldPlace ad f).run P w = .ok (ad.add f.offset) w := by
  have : sz ≠ 0 := by omega
  simp [fieldPlace, hf, run_size hn, this]

theorem op_fld_fz {i off sz by_ : Nat} {ft : TypeId} {z : Value} {fs fs' : List FV} [hf : TyF P t i off ft] [hn : TyN P ft sz by_ z] (h0 : Nat.blt 0 sz = true) (ho : o.op = .fieldAddr t x i) (hx : Opd G g x (.fz (.cellp fs))) (hd : Dr fs off fs') : OpP P o g G (.fz (.cellp fs')) :=
  .of fun S m a w hg ha => by
    have h1 := (hx.rep hg (by simp [ho, Op.operands]) ha).frz
    obtain ⟨ff, f, e1, e2, e3, e4⟩ := hf.h
    obtain ⟨rfl, _⟩ := hd.eq
    generalize hv : a.eval x = v at h1
    cases h1 with
    | cellp b o2 _ U hS hU hR =>
      refine ⟨.pointer (some ⟨b, o2 + off, none⟩), ?_, .fz _ _ (.cellp b _ _ (fun j => U (off + j)) hS (fun j q hq => ?_) (fun j q hq => ?_))⟩
      · simp [execOp, ho, hv, Instr.fieldAt, run_underlying e1, e2, Instr.sureAddr, run_fieldPlace hn (blt_of h0) e4, e3, add_none]
      · rw [List.getElem?_drop] at hq; rw [Nat.add_assoc]; exact hU _ _ hq
      · rw [List.getElem?_drop] at hq; exact hR _ _ hq
theorem op_fld_ptr {i off sz by_ id s row col : Nat} {ft : TypeId} {z : Value} [hf : TyF P t i off ft] [hn : TyN P ft sz by_ z] (h0 : Nat.blt 0 sz = true) (ho : o.op = .fieldAddr t x i) (hx : Opd G g x (.ptr id s row col)) : OpP P o g G (.ptr id s row (col + off)) :=
  .of fun S m a w hg ha => by
    have h1 := hx.rep hg (by simp [ho, Op.operands]) ha
    obtain ⟨ff, f, e1, e2, e3, e4⟩ := hf.h
    generalize hv : a.eval x = v at h1
    cases h1 with
    | ptr _ _ _ _ b hb =>
      refine ⟨.pointer (some ⟨b, row * s + (col + off), none⟩), ?_, .ptr _ _ _ _ b hb⟩
      simp [execOp, ho, hv, Instr.fieldAt, run_underlying e1, e2, Instr.sureAddr, run_fieldPlace hn (blt_of h0) e4, e3, add_none, Nat.add_assoc]

/-! loads -/
theorem run_load1 {P : Program} {t : TypeId} [hd : TyA P t false] {w : World} {ad : Addr} {u : Value} (hc : w.cell? ad = some u) : (loadVar t ad).run P w = .ok u w := by
  simp [loadVar, run_isAgg hd, load, Sem.run, hc]
theorem run_loadn {P : Program} {t : TypeId} {sz by_ : Nat} {z : Value} [hd : TyA P t true] [hn : TyN P t sz by_ z] {w : World} {ad : Addr} {us : List Value} (hl : us.length = sz) (hc : ∀ j u, us[j]? = some u → w.cell? (ad.add j) = some u) : (loadVar t ad).run P w = .ok (.agg us.toArray) w := by
  have h2 := run_loadCells_list (P := P) w ad us hc
  rw [hl] at h2
  simp [loadVar, run_isAgg hd, run_size hn, h2]

/-- a family of cells as0 a list -/
theorem cells_list {α : Type} {w : World} {b off : Nat} {R : Value → α → Prop} {fs : List α} (h : ∀ (j : Nat) (f : α), fs[j]? = some f → ∃ u, w.cell? ⟨b, off + j, none⟩ = some u ∧ u.oneCell' = true ∧ R u f) :
    ∃ us : List Value, us.length = fs.length ∧ (∀ j u, us[j]? = some u → w.cell? ((⟨b, off, none⟩ : Addr).add j) = some u ∧ u.oneCell' = true) ∧ ∀ (j : Nat) (u : Value) (f : α), us[j]? = some u → fs[j]? = some f → R u f := by
  induction fs generalizing off with
  | nil => exact ⟨[], rfl, fun j u hu => by simp at hu, fun j u f hu => by simp at hu⟩
  | cons f fs ih =>
    obtain ⟨u0, h1, h2, h3⟩ := h 0 f rfl
    obtain ⟨us, hl, hc, hr⟩ := ih (off := off + 1) fun j f hf => by
      obtain ⟨u, hu⟩ := h (j + 1) f (by simpa using hf)
      exact ⟨u, by rw [show off + 1 + j = off + (j + 1) by omega]; exact hu⟩
    refine ⟨u0 :: us, by simp [hl], fun j u hu => ?_, fun j u q hu hq => ?_⟩
    · cases j with
      | zero => simp at hu; subst hu; exact ⟨by rw [add_none]; exact h1, h2⟩
      | succ j =>
        have := hc j u (by simpa using hu)
        rw [add_none] at this ⊢
        rw [show off + (j + 1) = off + 1 + j by omega]; exact this
    · cases j with
      | zero => simp at hu hq; subst hu; subst hq; exact h3
      | succ j => exact hr j u q (by simpa using hu) (by simpa using hq)

theorem frep_agg {w : World} {S : Nat → Prop} {us : List Value} {fs : List FV} (hl : us.length = fs.length) (h1 : ∀ (j : Nat) (u : Value), us[j]? = some u → u.oneCell' = true) (h : ∀ (j : Nat) (u : Value) (f : FV), us[j]? = some u → fs[j]? = some f → FRep w S u f) : FRep w S (.agg us.toArray) (.agg fs) :=
  .agg _ _ (by simpa using hl) (fun i c f hc hf => h i c f (by simpa using hc) hf) (fun i c hc => h1 i c (by simpa using hc))

theorem op_load1_fz {fs : List FV} {f : FV} [hd : TyA P t false] (ho : o.op = .load t x) (hx : Opd G g x (.fz (.cellp fs))) (hf : fs[0]? = some f) : OpP P o g G (.fz f) :=
  .of fun S m a w hg ha => by
    have hr := (hx.rep hg (by simp [ho, Op.operands]) ha).frz
    generalize hv : a.eval x = v at hr
    cases hr with
    | cellp b off _ U hS hU hR =>
      exact ⟨U 0, by simp [execOp, ho, hv, Instr.loadAt, Instr.sureAddr, run_load1 (t := t) (show w.cell? ⟨b, off, none⟩ = some (U 0) from (hU 0 f hf).1)], .fz _ _ (hR 0 f hf)⟩
theorem op_loadn_fz {sz by_ : Nat} {z : Value} {fs f2 : List FV} [hd : TyA P t true] [hn : TyN P t sz by_ z] (ho : o.op = .load t x) (hx : Opd G g x (.fz (.cellp fs))) (ht : Tk fs sz f2) : OpP P o g G (.fz (.agg f2)) :=
  .of fun S m a w hg ha => by
    have hr := (hx.rep hg (by simp [ho, Op.operands]) ha).frz
    obtain ⟨rfl, hb⟩ := ht.eq
    generalize hv : a.eval x = v at hr
    cases hr with
    | cellp b off _ U hS hU hR =>
      obtain ⟨us, hl, hc, hrr⟩ := cells_list (w := w) (b := b) (off := off) (R := FRep w S) (fs := fs.take sz) fun j f hf => by
        rw [List.getElem?_take] at hf
        split at hf
        · exact ⟨U j, (hU j f hf).1, (hU j f hf).2, hR j f hf⟩
        · cases hf
      refine ⟨.agg us.toArray, ?_, .fz _ _ (frep_agg hl (fun j u hu => (hc j u hu).2) hrr)⟩
      simp [execOp, ho, hv, Instr.loadAt, Instr.sureAddr, run_loadn (P := P) (t := t) (by rw [hl]; simp; omega) (fun j u hu => (hc j u hu).1)]
/-- a whole element -/
theorem op_loadw_fz {sz by_ : Nat} {z : Value} {fs : List FV} [hd : TyA P t true] [hn : TyN P t sz by_ z] (ho : o.op = .load t x) (hx : Opd G g x (.fz (.cellp fs))) (hl : Nat.beq fs.length sz = true) : OpP P o g G (.fz (.agg fs)) := by
  refine op_loadn_fz ho hx ?_
  have := Nat.eq_of_beq_eq_true hl
  subst this
  clear hx hn hl
  induction fs with
  | nil => exact .z _
  | cons f fs ih => exact .s _ _ _ _ ih

theorem own_cell {w : World} {b : Nat} {c : Array Value} {e : TypeId} (hc : w.heap[b]? = some (.cells c e (0, 0))) {j : Nat} {u : Value} (h : c[j]? = some u) : w.cell? ⟨b, j, none⟩ = some u := by
  simp [World.cell?, hc, h]

theorem op_load1_flatS {id sz row col : Nat} {rows : List (List FV)} {r : List FV} {f : FV} [hd : TyA P t false] (ho : o.op = .load t x) (hx : Opd G g x (.ptr id sz row col)) (hh : g = true → hlook H id = some (.flat sz rows) ∧ rows[row]? = some r) (hf : r[col]? = some f) : OpS P o g G H nx (.fz f) H nx :=
  .of fun C S m a w hm hg ha => by
    have hr := hx.rep hg (by simp [ho, Op.operands]) ha
    obtain ⟨hh, hrow⟩ := hh hg
    generalize hv : a.eval x = v at hr
    cases hr with
    | ptr _ _ _ _ b hb =>
      rcases hm.objs id _ hh with ⟨h2, _⟩ | ⟨b', c, e, h2, hc, h3, h4, h5⟩
      · rw [hb] at h2; cases h2
      · rw [hb] at h2; cases h2
        obtain ⟨u, hu, _, hp⟩ := h5 row col r f hrow hf
        exact ⟨u, by simp [execOp, ho, hv, Instr.loadAt, Instr.sureAddr, run_load1 (t := t) (own_cell hc hu)], .fz _ _ hp⟩
theorem op_load1_refsS {id sz row col : Nat} {rows : List (List PV)} {r : List PV} {f : PV} [hd : TyA P t false] (ho : o.op = .load t x) (hx : Opd G g x (.ptr id sz row col)) (hh : g = true → hlook H id = some (.refs sz rows) ∧ rows[row]? = some r) (hf : r[col]? = some f) : OpS P o g G H nx f H nx :=
  .of fun C S m a w hm hg ha => by
    have hr := hx.rep hg (by simp [ho, Op.operands]) ha
    obtain ⟨hh, hrow⟩ := hh hg
    generalize hv : a.eval x = v at hr
    cases hr with
    | ptr _ _ _ _ b hb =>
      rcases hm.objs id _ hh with ⟨h2, _⟩ | ⟨b', c, e, h2, hc, h3, h4, h5⟩
      · rw [hb] at h2; cases h2
      · rw [hb] at h2; cases h2
        obtain ⟨u, hu, _, hp⟩ := h5 row col r f hrow hf
        exact ⟨u, by simp [execOp, ho, hv, Instr.loadAt, Instr.sureAddr, run_load1 (t := t) (own_cell hc hu)], hp⟩
theorem op_loadn_flatS {id sz row col n by_ : Nat} {z : Value} {rows : List (List FV)} {r r1 r2 : List FV} [hd : TyA P t true] [hn : TyN P t n by_ z] (ho : o.op = .load t x) (hx : Opd G g x (.ptr id sz row col)) (hh : g = true → hlook H id = some (.flat sz rows) ∧ rows[row]? = some r) (hd1 : Dr r col r1) (ht : Tk r1 n r2) : OpS P o g G H nx (.fz (.agg r2)) H nx :=
  .of fun C S m a w hm hg ha => by
    have hr := hx.rep hg (by simp [ho, Op.operands]) ha
    obtain ⟨hh, hrow⟩ := hh hg
    obtain ⟨rfl, hb1⟩ := hd1.eq
    obtain ⟨rfl, hb2⟩ := ht.eq
    generalize hv : a.eval x = v at hr
    cases hr with
    | ptr _ _ _ _ b hb =>
      rcases hm.objs id _ hh with ⟨h2, _⟩ | ⟨b', c, e, h2, hc, h3, h4, h5⟩
      · rw [hb] at h2; cases h2
      · rw [hb] at h2; cases h2
        obtain ⟨us, hl, hcc, hrr⟩ := cells_list (w := w) (b := b) (off := row * sz + col) (R := FRep w S) (fs := (r.drop col).take n) fun j f hf => by
          rw [List.getElem?_take] at hf
          split at hf
          · rw [List.getElem?_drop] at hf
            obtain ⟨u, hu, ho1, hp⟩ := h5 row (col + j) r f hrow hf
            exact ⟨u, own_cell hc (by rw [Nat.add_assoc]; exact hu), ho1, hp⟩
          · cases hf
        refine ⟨.agg us.toArray, ?_, .fz _ _ (frep_agg hl (fun j u hu => (hcc j u hu).2) hrr)⟩
        simp [execOp, ho, hv, Instr.loadAt, Instr.sureAddr, run_loadn (P := P) (t := t) (by rw [hl]; simp at hb2 ⊢; omega) (fun j u hu => (hcc j u hu).1)]
theorem op_loadn_refsS {id sz row col n by_ : Nat} {z : Value} {rows : List (List PV)} {r r1 r2 : List PV} [hd : TyA P t true] [hn : TyN P t n by_ z] (ho : o.op = .load t x) (hx : Opd G g x (.ptr id sz row col)) (hh : g = true → hlook H id = some (.refs sz rows) ∧ rows[row]? = some r) (hd1 : Dr r col r1) (ht : Tk r1 n r2) : OpS P o g G H nx (.agg r2) H nx :=
  .of fun C S m a w hm hg ha => by
    have hr := hx.rep hg (by simp [ho, Op.operands]) ha
    obtain ⟨hh, hrow⟩ := hh hg
    obtain ⟨rfl, hb1⟩ := hd1.eq
    obtain ⟨rfl, hb2⟩ := ht.eq
    generalize hv : a.eval x = v at hr
    cases hr with
    | ptr _ _ _ _ b hb =>
      rcases hm.objs id _ hh with ⟨h2, _⟩ | ⟨b', c, e, h2, hc, h3, h4, h5⟩
      · rw [hb] at h2; cases h2
      · rw [hb] at h2; cases h2
        obtain ⟨us, hl, hcc, hrr⟩ := cells_list (w := w) (b := b) (off := row * sz + col) (R := Rep w S m) (fs := (r.drop col).take n) fun j f hf => by
          rw [List.getElem?_take] at hf
          split at hf
          · rw [List.getElem?_drop] at hf
            obtain ⟨u, hu, ho1, hp⟩ := h5 row (col + j) r f hrow hf
            exact ⟨u, own_cell hc (by rw [Nat.add_assoc]; exact hu), ho1, hp⟩
          · cases hf
        refine ⟨.agg us.toArray, ?_, .agg _ _ (by simpa using hl) (fun j u f hu hf => hrr j u f (by simpa using hu) hf) (fun j u hu => (hcc j u (by simpa using hu)).2)⟩
        simp [execOp, ho, hv, Instr.loadAt, Instr.sureAddr, run_loadn (P := P) (t := t) (by rw [hl]; simp at hb2 ⊢; omega) (fun j u hu => (hcc j u hu).1)]
/-- a whole row of an owned object -/
theorem op_loadw_flatS {id sz row by_ : Nat} {z : Value} {rows : List (List FV)} {r : List FV} [hd : TyA P t true] [hn : TyN P t sz by_ z] (ho : o.op = .load t x) (hx : Opd G g x (.ptr id sz row 0)) (hh : g = true → hlook H id = some (.flat sz rows) ∧ rows[row]? = some r) (hl : Nat.beq r.length sz = true) : OpS P o g G H nx (.fz (.agg r)) H nx := by
  refine op_loadn_flatS (n := sz) (r1 := r) ho hx hh (.z _) ?_
  have := Nat.eq_of_beq_eq_true hl
  subst this
  clear hx hn hl hh
  induction r with
  | nil => exact .z _
  | cons f fs ih => exact .s _ _ _ _ ih
theorem hh_of {A : Prop} {g : Bool} {H H' : Hp} {id : Nat} {ob : Ob} (hh : g = true → hlook H id = some ob ∧ A) (ha : ∀ i, [id].contains i = true → hlook H' i = hlook H i) : g = true → hlook H' id = some ob ∧ A := fun hg => ⟨(ha id (by simp)).trans (hh hg).1, (hh hg).2⟩
theorem op_load1_flat {id sz row col : Nat} {rows : List (List FV)} {r : List FV} {f : FV} [hd : TyA P t false] (ho : o.op = .load t x) (hx : Opd G g x (.ptr id sz row col)) (hh : g = true → hlook H id = some (.flat sz rows) ∧ rows[row]? = some r) (hf : r[col]? = some f) : OpL P o g G H [id] (.fz f) := fun _ _ ha => op_load1_flatS ho hx (hh_of hh ha) hf
theorem op_load1_refs {id sz row col : Nat} {rows : List (List PV)} {r : List PV} {f : PV} [hd : TyA P t false] (ho : o.op = .load t x) (hx : Opd G g x (.ptr id sz row col)) (hh : g = true → hlook H id = some (.refs sz rows) ∧ rows[row]? = some r) (hf : r[col]? = some f) : OpL P o g G H [id] f := fun _ _ ha => op_load1_refsS ho hx (hh_of hh ha) hf
theorem op_loadn_flat {id sz row col n by_ : Nat} {z : Value} {rows : List (List FV)} {r r1 r2 : List FV} [hd : TyA P t true] [hn : TyN P t n by_ z] (ho : o.op = .load t x) (hx : Opd G g x (.ptr id sz row col)) (hh : g = true → hlook H id = some (.flat sz rows) ∧ rows[row]? = some r) (hd1 : Dr r col r1) (ht : Tk r1 n r2) : OpL P o g G H [id] (.fz (.agg r2)) := fun _ _ ha => op_loadn_flatS ho hx (hh_of hh ha) hd1 ht
theorem op_loadn_refs {id sz row col n by_ : Nat} {z : Value} {rows : List (List PV)} {r r1 r2 : List PV} [hd : TyA P t true] [hn : TyN P t n by_ z] (ho : o.op = .load t x) (hx : Opd G g x (.ptr id sz row col)) (hh : g = true → hlook H id = some (.refs sz rows) ∧ rows[row]? = some r) (hd1 : Dr r col r1) (ht : Tk r1 n r2) : OpL P o g G H [id] (.agg r2) := fun _ _ ha => op_loadn_refsS ho hx (hh_of hh ha) hd1 ht
theorem op_loadw_flat {id sz row by_ : Nat} {z : Value} {rows : List (List FV)} {r : List FV} [hd : TyA P t true] [hn : TyN P t sz by_ z] (ho : o.op = .load t x) (hx : Opd G g x (.ptr id sz row 0)) (hh : g = true → hlook H id = some (.flat sz rows) ∧ rows[row]? = some r) (hl : Nat.beq r.length sz = true) : OpL P o g G H [id] (.fz (.agg r)) := fun _ _ ha => op_loadw_flatS ho hx (hh_of hh ha) hl

end
end Go.RT
/- The engine, part 9: operations that write, make or grow; calls. -/
namespace Go.RT
set_option linter.all false

theorem wp_skip_op {P : Program} {o : Oper} {a : Act} {w w' : World} {K : Act → World → Prop} {Q : Exit → Act → World → Prop} (h : (execOp a.eval o).run P w = .ok .skip w') (hk : K (a.put o.dst undef) w') : o.wpE P a w K Q := Oper.wpE_of h (fun _ => by simp) fun _ => hk

section
variable {P : Program} {o : Oper} {g : Bool} {G : Env} {x y : Operand} {t : TypeId} {H : Hp} {nx : Nat}

/-! stores -/
theorem run_storeVar {t : TypeId} {sz by_ : Nat} {z : Value} (hn : TyN P t sz by_ z) {w : World} {b off : Nat} {c : Array Value} {e : TypeId} {v : Value} (hc : w.heap[b]? = some (.cells c e (0, 0))) (hs : v.cells.size = sz) (hb : off + sz ≤ c.size)
    (h1 : ∀ (j : Nat) (u : Value), v.cells[j]? = some u → u.oneCell' = true) : (storeVar t ⟨b, off, none⟩ v).run P w = .ok () (w.setRow b (c.toList.take off ++ v.cells.toList ++ c.toList.drop (off + sz)).toArray) := by
  have := run_storeCells_at (P := P) b off e v.cells.toList 0 c w hc (by simp [hs]; omega) (fun u hu => by
    obtain ⟨j, hj, he⟩ := List.getElem_of_mem hu
    exact h1 j u (by rw [← Array.getElem?_toList]; simp [he, List.getElem?_eq_getElem hj]))
  simp only [Nat.add_zero, Array.length_toList, hs] at this
  simp [storeVar, run_size hn, hs, this]

theorem RowsRep.set {α : Type} {R : Value → α → Prop} {c : Array Value} {sz : Nat} {rows : List (List α)} (h : RowsRep R c sz rows) {row col : Nat} {r cs r' : List α} {vs : Array Value} (hrow : rows[row]? = some r) (hsp : Sp r col cs r')
    (hvs : vs.size = cs.length) (hv : ∀ (i : Nat) (p : α), cs[i]? = some p → ∃ u, vs[i]? = some u ∧ u.oneCell' = true ∧ R u p) :
    row * sz + col + cs.length ≤ c.size ∧ RowsRep R (c.toList.take (row * sz + col) ++ vs.toList ++ c.toList.drop (row * sz + col + cs.length)).toArray sz (rows.set row r') := by
  obtain ⟨h1, h2, h3⟩ := h
  obtain ⟨k1, k2, k3⟩ := hsp.get
  have hlt : row < rows.length := (List.getElem?_eq_some_iff.1 hrow).1
  have hrl : r.length = sz := h2 r (List.mem_of_getElem? hrow)
  have hmul : (row + 1) * sz ≤ rows.length * sz := Nat.mul_le_mul_right _ hlt
  rw [Nat.add_mul, Nat.one_mul] at hmul
  have hb : row * sz + col + cs.length ≤ c.size := by omega
  refine ⟨hb, ?_, fun q hq => ?_, fun i j q p hi hj => ?_⟩
  · simp only [List.length_set, List.size_toArray, List.length_append, List.length_take, Array.length_toList, List.length_drop, hvs]; omega
  · rcases List.mem_or_eq_of_mem_set hq with hq | rfl
    · exact h2 q hq
    · rw [k1]; exact hrl
  · have hjs : j < sz := by
      have : q.length = sz := by
        have hqm := List.mem_of_getElem? hi
        rcases List.mem_or_eq_of_mem_set hqm with hq | rfl
        · exact h2 q hq
        · rw [k1]; exact hrl
      rw [← this]; exact (List.getElem?_eq_some_iff.1 hj).1
    have get : ∀ k, (c.toList.take (row * sz + col) ++ vs.toList ++ c.toList.drop (row * sz + col + cs.length)).toArray[k]? = if row * sz + col ≤ k ∧ k < row * sz + col + cs.length then vs[k - (row * sz + col)]? else c[k]? := fun k => by
      simp only [List.getElem?_toArray, List.append_assoc, List.getElem?_append, List.length_take, Array.length_toList, Nat.min_eq_left (show row * sz + col ≤ c.size by omega), hvs]
      by_cases hk1 : k < row * sz + col
      · rw [if_pos hk1, if_neg (by omega), List.getElem?_take, if_pos hk1, Array.getElem?_toList]
      · rw [if_neg hk1]
        by_cases hk2 : k < row * sz + col + cs.length
        · rw [if_pos (by omega), if_pos (by omega), Array.getElem?_toList]
        · rw [if_neg (by omega), if_neg (by omega), List.getElem?_drop, Array.getElem?_toList]; congr 1; omega
    rw [List.getElem?_set] at hi
    by_cases hir : row = i
    · subst hir
      rw [if_pos rfl, if_pos hlt] at hi; cases hi
      rw [k3 j] at hj
      rw [get]
      by_cases hc : col ≤ j ∧ j < col + cs.length
      · rw [if_pos hc] at hj
        rw [if_pos (by omega), show row * sz + j - (row * sz + col) = j - col by omega]
        exact hv _ _ hj
      · rw [if_neg hc] at hj
        rw [if_neg (by omega)]
        exact h3 row j r p hrow hj
    · rw [if_neg hir] at hi
      rw [get, if_neg ?_]
      · exact h3 i j q p hi hj
      · rintro ⟨ha, hb⟩
        have hcl : col + cs.length ≤ sz := by omega
        rcases Nat.lt_or_ge i row with h | h
        · have : (i + 1) * sz ≤ row * sz := Nat.mul_le_mul_right _ h
          rw [Nat.add_mul, Nat.one_mul] at this; omega
        · have : (row + 1) * sz ≤ i * sz := Nat.mul_le_mul_right _ (by omega)
          rw [Nat.add_mul, Nat.one_mul] at this; omega

theorem own_set {rows : List (List PV)} {r r' cs : List PV} {row col sz : Nat} {c : Array Value} {vs : List Value} (hsz : ∀ r ∈ rows, r.length = sz) (hb : row * sz + col + cs.length ≤ c.size) (hrow : rows[row]? = some r) (hsp : Sp r col cs r') (hvl : vs.length = cs.length) (hno : ∀ q ∈ cs, ∀ a b, q ≠ .own a b) :
    ∀ sz1 rows1 i j r1 isz irows, Ob.refs sz (rows.set row r') = .refs sz1 rows1 → rows1[i]? = some r1 → r1[j]? = some (.own isz irows) → ∃ rows0 r0, Ob.refs sz rows = .refs sz1 rows0 ∧ rows0[i]? = some r0 ∧ r0[j]? = some (.own isz irows) ∧
      (c.toList.take (row * sz + col) ++ vs ++ c.toList.drop (row * sz + col + cs.length)).toArray[i * sz1 + j]? = c[i * sz1 + j]? := by
  intro sz1 rows1 i j r1 isz irows h1 h2 h3
  cases h1
  obtain ⟨q1, q2, q3⟩ := hsp.get
  have cell : ∀ k, (k < row * sz + col ∨ row * sz + col + cs.length ≤ k) → (c.toList.take (row * sz + col) ++ vs ++ c.toList.drop (row * sz + col + cs.length)).toArray[k]? = c[k]? := fun k hk => by
    rw [List.getElem?_toArray, List.append_assoc, List.getElem?_append]
    simp only [List.length_take, Array.length_toList, Nat.min_eq_left (show row * sz + col ≤ c.size by omega)]
    rcases hk with hk | hk
    · rw [if_pos hk, List.getElem?_take, if_pos hk, Array.getElem?_toList]
    · rw [if_neg (by omega), List.getElem?_append_right (by omega), List.getElem?_drop, Array.getElem?_toList]; congr 1; omega
  have hr1 := hsz r (List.mem_of_getElem? hrow)
  rw [List.getElem?_set] at h2
  by_cases hi : row = i
  · subst hi
    have hlt : row < rows.length := (List.getElem?_eq_some_iff.1 hrow).1
    rw [if_pos rfl, if_pos hlt] at h2
    cases h2
    rw [q3 j] at h3
    by_cases hj : col ≤ j ∧ j < col + cs.length
    · rw [if_pos hj] at h3
      exact (hno _ (List.mem_of_getElem? h3) _ _ rfl).elim
    · rw [if_neg hj] at h3
      exact ⟨rows, r, rfl, hrow, h3, cell _ (by omega)⟩
  · rw [if_neg hi] at h2
    refine ⟨rows, r1, rfl, h2, h3, cell _ ?_⟩
    have hj : j < sz := by rw [← hsz r1 (List.mem_of_getElem? h2)]; exact (List.getElem?_eq_some_iff.1 h3).1
    rcases Nat.lt_or_gt_of_ne hi with h | h
    · right
      have := Nat.mul_le_mul_right sz (show row + 1 ≤ i by omega)
      rw [Nat.add_mul] at this; omega
    · left
      have := Nat.mul_le_mul_right sz (show i + 1 ≤ row by omega)
      rw [Nat.add_mul] at this; omega
theorem op_store_flat {id sz row col n by_ : Nat} {z : Value} {rows : List (List FV)} {r r' cs : List FV} {f : FV} [hn : TyN P t n by_ z] (ho : o.op = .store t x y) (hx : Opd G g x (.ptr id sz row col)) (hy : Opd G g y (.fz f)) (hcf : CellsF f cs) (hl : Nat.beq cs.length n = true)
    (hh : hlook H id = some (.flat sz rows)) (hrow : rows[row]? = some r) (hsp : Sp r col cs r') : OpS P o g G H nx (.fz (.lit undef)) ((id, some (.flat sz (rows.set row r'))) :: H) nx :=
  ⟨fun C S m a w hm hg ha K Q hK => by
    have hr := hx.rep hg (by simp [ho, Op.operands]) ha
    have hv := (hy.rep hg (by simp [ho, Op.operands]) ha).frz
    generalize hxv : a.eval x = vx at hr
    cases hr with
    | ptr _ _ _ _ b hb =>
      rcases hm.objs id _ hh with ⟨h2, _⟩ | ⟨b', c, e, h2, hc, hR⟩
      · rw [hb] at h2; cases h2
      · rw [hb] at h2; cases h2
        obtain ⟨hvs, hvr⟩ := hcf.rep hv
        have hcl := Nat.eq_of_beq_eq_true hl
        obtain ⟨hbd, _⟩ := hR.set hrow hsp hvs hvr
        have hst := run_storeVar (t := t) hn hc (v := a.eval y) (off := row * sz + col) (by rw [hvs, hcl]) (by omega) (fun j u hu => by
          have hj : j < cs.length := by rw [← hvs]; exact (Array.getElem?_eq_some_iff.1 hu).1
          obtain ⟨u', hu', ho1, _⟩ := hvr j cs[j] (by simp [hj])
          rw [hu] at hu'; cases hu'; exact ho1)
        rw [← hcl] at hst
        obtain ⟨hm', hle⟩ := hm.write hh hb hc (c' := (c.toList.take (row * sz + col) ++ (a.eval y).cells.toList ++ c.toList.drop (row * sz + col + cs.length)).toArray) (o' := .flat sz (rows.set row r')) (by
          simp only [List.size_toArray, List.length_append, List.length_take, Array.length_toList, List.length_drop, hvs]; omega) (plain_hown (by exact trivial)) (fun w' hle hnew => .inr ⟨b, _, e, hb, hnew, (RowsRep.set (hR.mono fun v p h => h.mono hle.st hle.same) hrow hsp hvs (fun i p hp => by
            obtain ⟨u, h1, h2, h3⟩ := hvr i p hp
            exact ⟨u, h1, h2, h3.mono hle.st hle.same⟩)).2⟩)
        refine wp_skip_op (w' := w.setRow b (c.toList.take (row * sz + col) ++ (a.eval y).cells.toList ++ c.toList.drop (row * sz + col + cs.length)).toArray) ?_ (hK undef _ S m hm' hle (.fz _ _ (.lit _)))
        simp [execOp, ho, hxv, Instr.storeAt, Instr.sureAddr, hst]⟩

theorem op_store_refs {id sz row col n by_ : Nat} {z : Value} {rows : List (List PV)} {r r' cs : List PV} {p : PV} [hn : TyN P t n by_ z] (ho : o.op = .store t x y) (hx : Opd G g x (.ptr id sz row col)) (hy : Opd G g y p) (hcf : Cells p cs) (hl : Nat.beq cs.length n = true)
    (hh : hlook H id = some (.refs sz rows)) (hrow : rows[row]? = some r) (hsp : Sp r col cs r') : OpS P o g G H nx (.fz (.lit undef)) ((id, some (.refs sz (rows.set row r'))) :: H) nx :=
  ⟨fun C S m a w hm hg ha K Q hK => by
    have hr := hx.rep hg (by simp [ho, Op.operands]) ha
    have hv := hy.rep hg (by simp [ho, Op.operands]) ha
    generalize hxv : a.eval x = vx at hr
    cases hr with
    | ptr _ _ _ _ b hb =>
      rcases hm.objs id _ hh with ⟨h2, _⟩ | ⟨b', c, e, h2, hc, hR⟩
      · rw [hb] at h2; cases h2
      · rw [hb] at h2; cases h2
        obtain ⟨hvs, hvr⟩ := hcf.rep hv
        have hcl := Nat.eq_of_beq_eq_true hl
        obtain ⟨hbd, _⟩ := hR.set hrow hsp hvs hvr
        have hst := run_storeVar (t := t) hn hc (v := a.eval y) (off := row * sz + col) (by rw [hvs, hcl]) (by omega) (fun j u hu => by
          have hj : j < cs.length := by rw [← hvs]; exact (Array.getElem?_eq_some_iff.1 hu).1
          obtain ⟨u', hu', ho1, _⟩ := hvr j cs[j] (by simp [hj])
          rw [hu] at hu'; cases hu'; exact ho1)
        rw [← hcl] at hst
        obtain ⟨hm', hle⟩ := hm.write hh hb hc (c' := (c.toList.take (row * sz + col) ++ (a.eval y).cells.toList ++ c.toList.drop (row * sz + col + cs.length)).toArray) (o' := .refs sz (rows.set row r')) (by
          simp only [List.size_toArray, List.length_append, List.length_take, Array.length_toList, List.length_drop, hvs]; omega) (own_set hR.2.1 (by omega) hrow hsp (by simpa using hvs) hcf.noOwn) (fun w' hle hnew => .inr ⟨b, _, e, hb, hnew, (RowsRep.set (hR.mono fun v p h => h.mono hle) hrow hsp hvs (fun i p hp => by
            obtain ⟨u, h1, h2, h3⟩ := hvr i p hp
            exact ⟨u, h1, h2, h3.mono hle⟩)).2⟩)
        refine wp_skip_op (w' := w.setRow b (c.toList.take (row * sz + col) ++ (a.eval y).cells.toList ++ c.toList.drop (row * sz + col + cs.length)).toArray) ?_ (hK undef _ S m hm' hle (.fz _ _ (.lit _)))
        simp [execOp, ho, hxv, Instr.storeAt, Instr.sureAddr, hst]⟩

/-! boxes -/
theorem op_box_flat {f : FV} {cs : List FV} {n : Nat} (ho : o.op = .box t x) (hx : Opd G g x (.fz f)) (hcf : CellsF f cs) (hl : cs.length = n) : OpS P o g G H nx (.ptr nx n 0 0) ((nx, some (.flat n [cs])) :: H) (nx + 1) :=
  ⟨fun C S m a w hm hg ha K Q hK => by
    have hv := (hx.rep hg (by simp [ho, Op.operands]) ha).frz
    obtain ⟨hvs, hvr⟩ := hcf.rep hv
    obtain ⟨h1, h2, h3⟩ := hm.new (a.eval x).cells t (.flat n [cs]) trivial (fun w' m' hle hnew hid => .inr ⟨_, _, _, hid, hnew, by
      subst hl
      exact rowsRep_one hvs fun i p hp => by
        obtain ⟨u, k1, k2, k3⟩ := hvr i p hp
        exact ⟨u, k1, k2, k3.mono hle.st hle.same⟩⟩)
    refine wp_value (w' := w.alloc (.cells (a.eval x).cells t)) (v := .pointer (some ⟨w.heap.size, 0, none⟩)) ?_ (hK _ _ S _ h1 h2 ?_)
    · simp [execOp, ho, Instr.box, newVar, newRow]
    · have := Rep.ptr (w := w.alloc (.cells (a.eval x).cells t)) (S := S) (m := setM m nx (some w.heap.size)) nx n 0 0 w.heap.size (setM_self _ _ _)
      simpa using this⟩
theorem op_box_refs {p : PV} {cs : List PV} {n : Nat} (ho : o.op = .box t x) (hx : Opd G g x p) (hcf : Cells p cs) (hl : cs.length = n) : OpS P o g G H nx (.ptr nx n 0 0) ((nx, some (.refs n [cs])) :: H) (nx + 1) :=
  ⟨fun C S m a w hm hg ha K Q hK => by
    have hv := hx.rep hg (by simp [ho, Op.operands]) ha
    obtain ⟨hvs, hvr⟩ := hcf.rep hv
    obtain ⟨h1, h2, h3⟩ := hm.new (a.eval x).cells t (.refs n [cs]) (fun r hr => by rw [List.mem_singleton] at hr; subst hr; exact hcf.noOwn) (fun w' m' hle hnew hid => .inr ⟨_, _, _, hid, hnew, by
      subst hl
      exact rowsRep_one hvs fun i p hp => by
        obtain ⟨u, k1, k2, k3⟩ := hvr i p hp
        exact ⟨u, k1, k2, k3.mono hle⟩⟩)
    refine wp_value (w' := w.alloc (.cells (a.eval x).cells t)) (v := .pointer (some ⟨w.heap.size, 0, none⟩)) ?_ (hK _ _ S _ h1 h2 ?_)
    · simp [execOp, ho, Instr.box, newVar, newRow]
    · have := Rep.ptr (w := w.alloc (.cells (a.eval x).cells t)) (S := S) (m := setM m nx (some w.heap.size)) nx n 0 0 w.heap.size (setM_self _ _ _)
      simpa using this⟩

/-- the zero value's cells, as0 frozen data -/
def zeroFs (z : Value) : List FV := z.cells.toList.map FV.lit
theorem op_alloc {n by_ : Nat} {z : Value} {cs : List FV} [hn : TyN P t n by_ z] (ho : o.op = .alloc t) (hz : zeroFs z = cs) (hl : Nat.beq cs.length n = true) (h1 : z.cells.toList.all (·.oneCell') = true) : OpS P o g G H nx (.ptr nx n 0 0) ((nx, some (.flat n [cs])) :: H) (nx + 1) :=
  ⟨fun C S m a w hm hg ha K Q hK => by
    have hcl := Nat.eq_of_beq_eq_true hl
    subst hz
    have hvs : z.cells.size = (zeroFs z).length := by simp [zeroFs]
    have hvr : ∀ (w : World) (i : Nat) (p : FV), (zeroFs z)[i]? = some p → ∃ u, z.cells[i]? = some u ∧ u.oneCell' = true ∧ FRep w S u p := fun w i p hp => by
      simp only [zeroFs, List.getElem?_map, Array.getElem?_toList] at hp
      obtain ⟨u, hu, rfl⟩ := Option.map_eq_some_iff.1 hp
      exact ⟨u, hu, by
        exact List.all_eq_true.1 h1 u (Array.mem_toList_iff.2 (Array.mem_of_getElem? hu)), .lit _⟩
    obtain ⟨h1, h2, h3⟩ := hm.new z.cells t (.flat n [zeroFs z]) trivial (fun w' m' hle hnew hid => .inr ⟨_, _, _, hid, hnew, by
      subst hcl
      exact rowsRep_one hvs fun i p hp => hvr w' i p hp⟩)
    refine wp_value (w' := w.alloc (.cells z.cells t)) (v := .pointer (some ⟨w.heap.size, 0, none⟩)) ?_ (hK _ _ S _ h1 h2 ?_)
    · simp [execOp, ho, Instr.alloc, run_zero hn, newVar, newRow]
    · have := Rep.ptr (w := w.alloc (.cells z.cells t)) (S := S) (m := setM m nx (some w.heap.size)) nx n 0 0 w.heap.size (setM_self _ _ _)
      simpa using this⟩

/-! functions, tuples -/
theorem op_extract_fz {i : Nat} {fs : List FV} {f : FV} (ho : o.op = .extract x i) (hx : Opd G g x (.fz (.tup fs))) (hf : fs[i]? = some f) : OpP P o g G (.fz f) :=
  .of fun S m a w hg ha => by
    have hr := (hx.rep hg (by simp [ho, Op.operands]) ha).frz
    generalize hv : a.eval x = v at hr
    cases hr with
    | tup cs _ hl h =>
      have hi : i < cs.size := by rw [hl]; exact (List.getElem?_eq_some_iff.1 hf).1
      exact ⟨cs[i], by simp [execOp, ho, hv, Instr.extract, hi], .fz _ _ (h i _ f (by simp [hi]) hf)⟩
theorem op_extract {i : Nat} {fs : List PV} {f : PV} (ho : o.op = .extract x i) (hx : Opd G g x (.tup fs)) (hf : fs[i]? = some f) : OpP P o g G f :=
  .of fun S m a w hg ha => by
    have hr := hx.rep hg (by simp [ho, Op.operands]) ha
    generalize hv : a.eval x = v at hr
    cases hr with
    | tup cs _ hl h =>
      have hi : i < cs.size := by rw [hl]; exact (List.getElem?_eq_some_iff.1 hf).1
      exact ⟨cs[i], by simp [execOp, ho, hv, Instr.extract, hi], h i _ f (by simp [hi]) hf⟩

/-- operands, one by one -/
inductive Opds (G : Env) (g : Bool) : List Operand → List PV → Prop where
  | nil : Opds G g [] []
  | cons (x : Operand) (xs : List Operand) (p : PV) (ps : List PV) : Opd G g x p → Opds G g xs ps → Opds G g (x :: xs) (p :: ps)
theorem Opds.length {G : Env} {g : Bool} {xs : List Operand} {ps : List PV} (h : Opds G g xs ps) : xs.length = ps.length := by
  induction h with
  | nil => rfl
  | cons _ _ _ _ _ _ ih => simp [ih]
theorem Opds.rep {G : Env} {g : Bool} {o : Oper} {a : Act} {w : World} {S : Nat → Prop} {m : Ids} (hg : g = true) (ha : ∀ t q, t ∈ opTmps o → look G t = some q → RepAt w S m a t q) {xs : List Operand} {ps : List PV} (h : Opds G g xs ps) :
    (∀ x ∈ xs, x ∈ o.op.operands) → ∀ (i : Nat) (v : Value) (p : PV), (xs.map a.eval)[i]? = some v → ps[i]? = some p → Rep w S m v p := by
  induction h with
  | nil => intro _ i v p h; simp at h
  | cons x xs p ps hx _ ih =>
    intro hin i v q hv hq
    cases i with
    | zero => simp at hv hq; subst hv; subst hq; exact hx.rep hg (hin x (by simp)) ha
    | succ i => exact ih (fun x hx => hin x (by simp [hx])) i v q (by simpa using hv) (by simpa using hq)

theorem op_makeFunc {f : FuncId} {as0 cs : List Operand} {ps qs : List PV} (ho : o.op = .makeFunc (.func f) as0.toArray cs.toArray) (h1 : Opds G g as0 ps) (h2 : Opds G g cs qs) : OpP P o g G (.clo f ps qs) :=
  .of fun S m a w hg ha => by
    refine ⟨.func (.func f) (as0.map a.eval).toArray (cs.map a.eval).toArray, by simp [execOp, ho, Instr.makeFunc], .clo _ _ _ _ _ (by simp [h1.length]) (by simp [h2.length]) (fun i c p hc hp => ?_) (fun i c p hc hp => ?_)⟩
    · exact h1.rep hg ha (fun x hx => by simp [ho, Op.operands, hx]) i c p (by simpa using hc) hp
    · exact h2.rep hg ha (fun x hx => by simp [ho, Op.operands, hx]) i c p (by simpa using hc) hp
end
end Go.RT
/- The engine, part 10: struct literals, slice literals, make, append, reslicing. -/
namespace Go.RT
set_option linter.all false

/-! ## arrays of cells -/
def ARep {α : Type} (R : Value → α → Prop) (A : Array Value) (ps : List α) : Prop := A.size = ps.length ∧ ∀ (i : Nat) (p : α), ps[i]? = some p → ∃ u, A[i]? = some u ∧ u.oneCell' = true ∧ R u p

def spl (A : Array Value) (off : Nat) (V : Array Value) : Array Value := V.zipIdx.foldl (fun cs (c, j) => cs.setIfInBounds (off + j) c) A

theorem spl_get (A : Array Value) (off : Nat) (V : Array Value) : (spl A off V).size = A.size ∧ (off + V.size ≤ A.size → ∀ q, (spl A off V)[q]? = if off ≤ q ∧ q < off + V.size then V[q - off]? else A[q]?) := by
  have h : ∀ (l : List Value) (k : Nat) (B : Array Value), ((l.zipIdx k).foldl (fun cs (x : Value × Nat) => cs.setIfInBounds (off + x.2) x.1) B).size = B.size ∧
      (off + k + l.length ≤ B.size → ∀ q, ((l.zipIdx k).foldl (fun cs (x : Value × Nat) => cs.setIfInBounds (off + x.2) x.1) B)[q]? = if off + k ≤ q ∧ q < off + k + l.length then l[q - (off + k)]? else B[q]?) := by
    intro l
    induction l with
    | nil => intro k B; exact ⟨rfl, fun _ q => by rw [if_neg (by simp)]; rfl⟩
    | cons v l ih =>
      intro k B
      rw [List.zipIdx_cons, List.foldl_cons]
      obtain ⟨h1, h2⟩ := ih (k + 1) (B.setIfInBounds (off + k) v)
      refine ⟨by rw [h1]; simp, fun hb q => ?_⟩
      simp only [List.length_cons] at hb ⊢
      rw [h2 (by rw [Array.size_setIfInBounds]; omega) q]
      by_cases hq : off + k = q
      · subst hq
        rw [if_neg (by omega), if_pos (by omega), Array.getElem?_setIfInBounds_self_of_lt (by omega)]
        simp
      · by_cases hr : off + k ≤ q ∧ q < off + k + (l.length + 1)
        · rw [if_pos (by omega), if_pos hr, show q - (off + k) = (q - (off + (k + 1))) + 1 by omega, List.getElem?_cons_succ]
        · rw [if_neg (by omega), if_neg hr, Array.getElem?_setIfInBounds_ne (by omega)]
  have e : spl A off V = (V.toList.zipIdx 0).foldl (fun cs (x : Value × Nat) => cs.setIfInBounds (off + x.2) x.1) A := by
    unfold spl
    rw [← Array.foldl_toList, Array.toList_zipIdx]
  obtain ⟨h1, h2⟩ := h V.toList 0 A
  rw [e]
  refine ⟨h1, fun hb q => ?_⟩
  have := h2 (by simpa using hb) q
  simpa using this

theorem ARep.splice {α : Type} {R : Value → α → Prop} {A V : Array Value} {ps cs ps' : List α} {off : Nat} (hA : ARep R A ps) (hV : ARep R V cs) (hs : Sp ps off cs ps') : ARep R (spl A off V) ps' := by
  obtain ⟨h1, h2, h3⟩ := hs.get
  obtain ⟨k1, k2⟩ := spl_get A off V
  have hb : off + V.size ≤ A.size := by rw [hA.1, hV.1]; exact h2
  refine ⟨by rw [k1, hA.1, h1], fun i p hp => ?_⟩
  rw [k2 hb i, hV.1]
  rw [h3 i] at hp
  by_cases hc : off ≤ i ∧ i < off + cs.length
  · rw [if_pos hc] at hp ⊢; exact hV.2 _ _ hp
  · rw [if_neg hc] at hp ⊢; exact hA.2 _ _ hp

theorem fill_cons {place : Nat → Option (Nat × Nat)} {A : Array Value} {i off sz : Nat} {v : Value} {rest : List (Nat × Value)} (hp : place i = some (off, sz)) (hs : v.cells.size = sz) (hb : off + sz ≤ A.size) :
    Instr.fill place A ((i, v) :: rest) = Instr.fill place (spl A off v.cells) rest := by
  rw [Instr.fill]
  simp only [hp]
  rw [if_neg (by simp [hs]; omega)]; rfl

section
variable {P : Program} {o : Oper} {g : Bool} {G : Env} {x y : Operand} {t : TypeId} {H : Hp} {nx : Nat}

/-- the places of a struct's fields -/
class TyB (P : Program) (t : TypeId) (places : outParam (List (Nat × Nat))) : Prop where
  h : ∃ fs, P.underlying t = some (.struct fs) ∧ ∀ w, (fs.mapM (fun f => Prod.mk f.offset <$> sizeOf f.type) : Sem (Array (Nat × Nat))).run P w = .ok places.toArray w

inductive FillF (places : List (Nat × Nat)) (G : Env) (g : Bool) : List (Nat × Operand) → List FV → List FV → Prop where
  | nil (c : List FV) : FillF places G g [] c c
  | cons (i : Nat) (x : Operand) (f : FV) (cs : List FV) (off n : Nat) (rest : List (Nat × Operand)) (c c' c'' : List FV) (hp : places[i]? = some (off, n)) (hx : Opd G g x (.fz f)) (hc : CellsF f cs) (hl : cs.length = n) (hs : Sp c off cs c')
      (tl : FillF places G g rest c' c'') : FillF places G g ((i, x) :: rest) c c''
inductive FillP (places : List (Nat × Nat)) (G : Env) (g : Bool) : List (Nat × Operand) → List PV → List PV → Prop where
  | nil (c : List PV) : FillP places G g [] c c
  | cons (i : Nat) (x : Operand) (f : PV) (cs : List PV) (off n : Nat) (rest : List (Nat × Operand)) (c c' c'' : List PV) (hp : places[i]? = some (off, n)) (hx : Opd G g x f) (hc : Cells f cs) (hl : cs.length = n) (hs : Sp c off cs c')
      (tl : FillP places G g rest c' c'') : FillP places G g ((i, x) :: rest) c c''

theorem FillF.run {places : List (Nat × Nat)} {o : Oper} {a : Act} {w : World} {S : Nat → Prop} {m : Ids} (hg : g = true) (ha : ∀ t q, t ∈ opTmps o → look G t = some q → RepAt w S m a t q) {parts : List (Nat × Operand)} {c c'' : List FV} (h : FillF places G g parts c c'') :
    (∀ p ∈ parts, p.2 ∈ o.op.operands) → ∀ A, ARep (FRep w S) A c → ∃ A', Instr.fill (places[·]?) A (parts.map fun p => (p.1, a.eval p.2)) = some A' ∧ ARep (FRep w S) A' c'' := by
  induction h with
  | nil c => intro _ A hA; exact ⟨A, rfl, hA⟩
  | cons i x f cs off n rest c c' c'' hp hx hc hl hs _ ih =>
    intro hin A hA
    obtain ⟨h1, h2⟩ := hc.rep (hx.rep hg (hin (i, x) (by simp)) ha).frz
    have hV : ARep (FRep w S) (a.eval x).cells cs := ⟨h1, h2⟩
    obtain ⟨A', k1, k2⟩ := ih (fun p hp => hin p (by simp [hp])) _ (hA.splice hV hs)
    refine ⟨A', ?_, k2⟩
    rw [List.map_cons, fill_cons (off := off) (sz := n) hp (by rw [h1, hl]) (by rw [hA.1, ← hl]; exact hs.get.2.1)]
    exact k1
theorem FillP.run {places : List (Nat × Nat)} {o : Oper} {a : Act} {w : World} {S : Nat → Prop} {m : Ids} (hg : g = true) (ha : ∀ t q, t ∈ opTmps o → look G t = some q → RepAt w S m a t q) {parts : List (Nat × Operand)} {c c'' : List PV} (h : FillP places G g parts c c'') :
    (∀ p ∈ parts, p.2 ∈ o.op.operands) → ∀ A, ARep (Rep w S m) A c → ∃ A', Instr.fill (places[·]?) A (parts.map fun p => (p.1, a.eval p.2)) = some A' ∧ ARep (Rep w S m) A' c'' := by
  induction h with
  | nil c => intro _ A hA; exact ⟨A, rfl, hA⟩
  | cons i x f cs off n rest c c' c'' hp hx hc hl hs _ ih =>
    intro hin A hA
    obtain ⟨h1, h2⟩ := hc.rep (hx.rep hg (hin (i, x) (by simp)) ha)
    have hV : ARep (Rep w S m) (a.eval x).cells cs := ⟨h1, h2⟩
    obtain ⟨A', k1, k2⟩ := ih (fun p hp => hin p (by simp [hp])) _ (hA.splice hV hs)
    refine ⟨A', ?_, k2⟩
    rw [List.map_cons, fill_cons (off := off) (sz := n) hp (by rw [h1, hl]) (by rw [hA.1, ← hl]; exact hs.get.2.1)]
    exact k1

theorem zeroFs_rep {z : Value} (h1 : z.cells.toList.all (·.oneCell') = true) (w : World) (S : Nat → Prop) : ARep (FRep w S) z.cells (zeroFs z) := by
  refine ⟨by simp [zeroFs], fun i p hp => ?_⟩
  simp only [zeroFs, List.getElem?_map, Array.getElem?_toList] at hp
  obtain ⟨u, hu, rfl⟩ := Option.map_eq_some_iff.1 hp
  exact ⟨u, hu, List.all_eq_true.1 h1 u (Array.mem_toList_iff.2 (Array.mem_of_getElem? hu)), .lit _⟩

theorem op_build {places : List (Nat × Nat)} {n by_ : Nat} {z : Value} {zs cs : List FV} {parts : List (Nat × Operand)} [hb : TyB P t places] [hn : TyN P t n by_ z] (ho : o.op = .build t parts.toArray) (h1 : z.cells.toList.all (·.oneCell') = true) (hz : zeroFs z = zs) (hf : FillF places G g parts zs cs) : OpP P o g G (.fz (.agg cs)) :=
  .of fun S m a w hg ha => by
    obtain ⟨fs, e1, e2⟩ := hb.h
    subst hz
    obtain ⟨A, k1, k2, k3⟩ := hf.run hg ha (fun p hp => by simp only [ho, Op.operands, List.mem_toArray]; exact List.mem_map.2 ⟨p, by simpa using hp, rfl⟩) _ (zeroFs_rep h1 w S)
    refine ⟨.agg A, ?_, .fz _ _ (.agg A cs k2 (fun i c f hc hf => ?_) (fun i c hc => ?_))⟩
    · have : (parts.toArray.map fun p => (p.1, a.eval p.2)).toList = parts.map fun p => (p.1, a.eval p.2) := by simp
      simp [execOp, ho, Instr.build, run_zero hn, run_underlying e1, e2, k1]
    · obtain ⟨u, hu, _, hr⟩ := k3 i f hf
      rw [hc] at hu; cases hu; exact hr
    · have hi : i < cs.length := by rw [← k2]; exact (Array.getElem?_eq_some_iff.1 hc).1
      obtain ⟨u, hu, hone, _⟩ := k3 i cs[i] (by simp [hi])
      rw [hc] at hu; cases hu; exact hone
theorem op_buildP {places : List (Nat × Nat)} {n by_ : Nat} {z : Value} {zs : List FV} {zp cs : List PV} {parts : List (Nat × Operand)} [hb : TyB P t places] [hn : TyN P t n by_ z] (ho : o.op = .build t parts.toArray) (h1 : z.cells.toList.all (·.oneCell') = true) (hz : zeroFs z = zs) (hzp : zs.map PV.fz = zp) (hf : FillP places G g parts zp cs) : OpP P o g G (.agg cs) :=
  .of fun S m a w hg ha => by
    obtain ⟨fs, e1, e2⟩ := hb.h
    subst hz; subst hzp
    have hz0 := zeroFs_rep h1 w S
    obtain ⟨A, k1, k2, k3⟩ := hf.run hg ha (fun p hp => by simp only [ho, Op.operands, List.mem_toArray]; exact List.mem_map.2 ⟨p, by simpa using hp, rfl⟩) z.cells ⟨by simpa using hz0.1, fun i p hp => by
      rw [List.getElem?_map] at hp
      obtain ⟨f, hf, rfl⟩ := Option.map_eq_some_iff.1 hp
      obtain ⟨u, q1, q2, q3⟩ := hz0.2 i f hf
      exact ⟨u, q1, q2, .fz _ _ q3⟩⟩
    refine ⟨.agg A, ?_, .agg A cs k2 (fun i c f hc hf => ?_) (fun i c hc => ?_)⟩
    · have : (parts.toArray.map fun p => (p.1, a.eval p.2)).toList = parts.map fun p => (p.1, a.eval p.2) := by simp
      simp [execOp, ho, Instr.build, run_zero hn, run_underlying e1, e2, k1]
    · obtain ⟨u, hu, _, hr⟩ := k3 i f hf
      rw [hc] at hu; cases hu; exact hr
    · have hi : i < cs.length := by rw [← k2]; exact (Array.getElem?_eq_some_iff.1 hc).1
      obtain ⟨u, hu, hone, _⟩ := k3 i cs[i] (by simp [hi])
      rw [hc] at hu; cases hu; exact hone

/-! slice literals -/
/-- operands in their places 0, 1, .. -/
inductive RowsF (G : Env) (g : Bool) (sz : Nat) : Nat → List (Nat × Operand) → List (List FV) → Prop where
  | nil (k : Nat) : RowsF G g sz k [] []
  | cons (k : Nat) (x : Operand) (f : FV) (r : List FV) (rest : List (Nat × Operand)) (rows : List (List FV)) (hx : Opd G g x (.fz f)) (hc : CellsF f r) (hl : r.length = sz) (tl : RowsF G g sz (k + 1) rest rows) : RowsF G g sz k ((k, x) :: rest) (r :: rows)
theorem RowsF.run {sz : Nat} {o : Oper} {a : Act} {w : World} {S : Nat → Prop} {m : Ids} (hg : g = true) (ha : ∀ t q, t ∈ opTmps o → look G t = some q → RepAt w S m a t q) {k : Nat} {parts : List (Nat × Operand)} {rows : List (List FV)} (h : RowsF G g sz k parts rows) :
    (∀ p ∈ parts, p.2 ∈ o.op.operands) → ∀ A : Array Value, (k + rows.length) * sz ≤ A.size → ∃ A', Instr.fill (fun i => some (i * sz, sz)) A (parts.map fun p => (p.1, a.eval p.2)) = some A' ∧ A'.size = A.size ∧ (∀ q, q < k * sz → A'[q]? = A[q]?) ∧
      (∀ r ∈ rows, r.length = sz) ∧ ∀ (i j : Nat) (r : List FV) (f : FV), rows[i]? = some r → r[j]? = some f → ∃ u, A'[(k + i) * sz + j]? = some u ∧ u.oneCell' = true ∧ FRep w S u f := by
  induction h with
  | nil k => intro _ A hA; exact ⟨A, rfl, rfl, fun _ _ => rfl, by simp, fun i j r f h => by simp at h⟩
  | cons k x f r rest rows hx hc hl _ ih =>
    intro hin A hA
    obtain ⟨h1, h2⟩ := hc.rep (hx.rep hg (hin (k, x) (by simp)) ha).frz
    simp only [List.length_cons] at hA
    have hA1 : (k + 1 + rows.length) * sz ≤ A.size := by rw [show k + 1 + rows.length = k + (rows.length + 1) by omega]; exact hA
    have hk1 : (k + 1) * sz ≤ A.size := Nat.le_trans (Nat.mul_le_mul_right _ (by omega)) hA1
    rw [Nat.add_mul, Nat.one_mul] at hk1
    have hvs : (a.eval x).cells.size = sz := by rw [h1, hl]
    obtain ⟨s1, s2⟩ := spl_get A (k * sz) (a.eval x).cells
    have s2' := s2 (by rw [hvs]; exact hk1)
    obtain ⟨A', k1, k2, k3, k5, k4⟩ := ih (fun p hp => hin p (by simp [hp])) (spl A (k * sz) (a.eval x).cells) (by rw [s1]; exact hA1)
    refine ⟨A', ?_, k2.trans s1, fun q hq => ?_, fun r' hr' => ?_, fun i j r' f' hi hj => ?_⟩
    · rw [List.map_cons, fill_cons (off := k * sz) (sz := sz) rfl hvs hk1]; exact k1
    · rw [k3 q (by rw [Nat.add_mul]; omega), s2' q, if_neg (by omega)]
    · rcases List.mem_cons.1 hr' with rfl | h
      · exact hl
      · exact k5 r' h
    · cases i with
      | zero =>
        simp at hi; subst hi
        have hj' : j < sz := by rw [← hl]; exact (List.getElem?_eq_some_iff.1 hj).1
        obtain ⟨u, hu, ho1, hr⟩ := h2 j f' hj
        refine ⟨u, ?_, ho1, hr⟩
        rw [Nat.add_zero, k3 _ (by rw [Nat.add_mul]; omega), s2', if_pos (by omega), show k * sz + j - k * sz = j by omega]; exact hu
      | succ i =>
        obtain ⟨u, hu, h3⟩ := k4 i j r' f' (by simpa using hi) hj
        exact ⟨u, by rw [show k + (i + 1) = k + 1 + i by omega]; exact hu, h3⟩

theorem run_buildSlice {e : TypeId} {sz by_ n : Nat} {z : Value} {rows : List (List FV)} {parts : List (Nat × Operand)} [hd : TyD P t (.slice e)] [hn : TyN P e sz by_ z] {a : Act} {w : World} {S : Nat → Prop} {m : Ids} (ho : o.op = .buildSlice t n parts.toArray) (hg : g = true)
    (ha : ∀ t q, t ∈ opTmps o → look G t = some q → RepAt w S m a t q) (hr : RowsF G g sz 0 parts rows) (hl : rows.length = n) (hmax : n * sz ≤ 16777216) :
    ∃ A : Array Value, (execOp a.eval o).run P w = .ok (.value (.slice (some ⟨w.heap.size, 0, none⟩) n n)) (w.alloc (.cells A e)) ∧ A.size = n * sz ∧ RowsRep (FRep w S) A sz rows := by
  obtain ⟨A, k1, k2, k3, k5, k4⟩ := hr.run hg ha (fun p hp => by simp only [ho, Op.operands, List.mem_toArray]; exact List.mem_map.2 ⟨p, by simpa using hp, rfl⟩)
    ((Array.range (n * sz)).map (fun i => (if n * sz = 0 then #[] else z.cells)[i % (if n * sz = 0 then #[] else z.cells).size]!)) (by simp [hl])
  refine ⟨A, ?_, by rw [k2]; simp, by rw [k2]; simp [hl], k5, fun i j r p h1 h2 => by have := k4 i j r p h1 h2; rwa [Nat.zero_add] at this⟩
  have hle : ¬ (n * sz > 2 ^ 24) := by omega
  by_cases h0 : n * sz = 0
  · have hr0 : Array.range 0 = #[] := rfl
    simp only [h0, hr0, Array.map_empty] at k1
    simp [execOp, ho, Instr.buildSlice, run_underlying hd.h, run_size hn, h0, hr0, k1, newRow]
  · simp only [h0, if_false] at k1
    simp [execOp, ho, Instr.buildSlice, run_underlying hd.h, run_size hn, run_zero hn, hle, h0, k1, newRow]

theorem op_buildSlice_own {e : TypeId} {sz by_ n : Nat} {z : Value} {rows : List (List FV)} {parts : List (Nat × Operand)} [hd : TyD P t (.slice e)] [hn : TyN P e sz by_ z] (ho : o.op = .buildSlice t n parts.toArray) (hr : RowsF G g sz 0 parts rows) (hl : rows.length = n) (hmax : Nat.ble (n * sz) 16777216 = true) (hmax2 : Nat.ble n 16777216 = true) :
    OpS P o g G H nx (.sl nx sz 0 n) ((nx, some (.flat sz rows)) :: H) (nx + 1) :=
  ⟨fun C S m a w hm hg ha K Q hK => by
    obtain ⟨A, h1, h2, h3⟩ := run_buildSlice (P := P) ho hg ha hr hl (Nat.le_of_ble_eq_true hmax)
    obtain ⟨k1, k2, k3⟩ := hm.new A e (.flat sz rows) trivial (fun w' m' hle hnew hid => .inr ⟨_, _, _, hid, hnew, h3.mono fun v p h => h.mono hle.st hle.same⟩)
    refine wp_value h1 (hK _ _ S _ k1 k2 ?_)
    have hn2 := Nat.le_of_ble_eq_true hmax2
    have := Rep.sl (w := w.alloc (.cells A e)) (S := S) (m := setM m nx (some w.heap.size)) nx sz 0 n w.heap.size n (setM_self _ _ _) ⟨A, e, _, k3, by rw [h2]; simp⟩ (Nat.le_refl _) (by unfold maxLen; omega)
    simpa using this⟩
theorem op_buildSlice_fz {e : TypeId} {sz by_ n : Nat} {z : Value} {rows : List (List FV)} {parts : List (Nat × Operand)} [hd : TyD P t (.slice e)] [hn : TyN P e sz by_ z] (ho : o.op = .buildSlice t n parts.toArray) (hr : RowsF G g sz 0 parts rows) (hl : rows.length = n) (hmax : Nat.ble (n * sz) 16777216 = true) :
    OpP P o g G (.fz (.vals sz rows)) := fun H nx =>
  ⟨fun C S m a w hm hg ha K Q hK => by
    obtain ⟨A, h1, h2, h3⟩ := run_buildSlice (P := P) ho hg ha hr hl (Nat.le_of_ble_eq_true hmax)
    obtain ⟨k1, k2, k3⟩ := hm.newF A e
    refine wp_value h1 (hK _ _ _ _ k1 k2 (.fz _ _ ?_))
    subst hl
    have hU : ∀ i j : Nat, ∃ u, ∀ r f, rows[i]? = some r → r[j]? = some f → A[i * sz + j]? = some u ∧ u.oneCell' = true ∧ FRep w S u f := fun i j => by
      cases hi : rows[i]? with
      | none => exact ⟨undef, fun _ _ h => by cases h⟩
      | some r =>
        cases hj : r[j]? with
        | none => exact ⟨undef, fun r' f h1 h2 => by cases h1; rw [hj] at h2; cases h2⟩
        | some f =>
          obtain ⟨u, hu⟩ := h3.2.2 i j r f hi hj
          exact ⟨u, fun r' f' h1 h2 => by cases h1; rw [hj] at h2; cases h2; exact hu⟩
    have hU' : ∃ U : Nat → Nat → Value, ∀ i j r f, rows[i]? = some r → r[j]? = some f → A[i * sz + j]? = some (U i j) ∧ (U i j).oneCell' = true ∧ FRep w S (U i j) f :=
      ⟨fun i j => Classical.choose (hU i j), fun i j r f h1 h2 => Classical.choose_spec (hU i j) r f h1 h2⟩
    obtain ⟨U, hU⟩ := hU'
    refine .vals w.heap.size 0 rows.length sz rows U (.inr rfl) (Nat.le_refl _) h3.2.1 (fun i j r f h1 h2 => ⟨?_, (hU i j r f h1 h2).2.1⟩) (fun i j r f h1 h2 => (hU i j r f h1 h2).2.2.mono k2.st k2.same)
    rw [Nat.zero_add]; exact own_cell k3 (hU i j r f h1 h2).1⟩
end
end Go.RT
