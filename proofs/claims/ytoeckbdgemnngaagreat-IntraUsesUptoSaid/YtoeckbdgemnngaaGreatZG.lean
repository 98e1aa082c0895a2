/- A part of the proof: I39, IN6, AP9, AP10, AP11, AP12, AP13, AP14, AP15, IN7, I40, I41, I42, LI. -/
import Derived.Test.YtoeckbdgemnngaaGreatZF
set_option linter.all false
namespace Go.Proofs.YtoeckbdgemnngaaGreat
open Go Go.RT Go.Proofs Go.Pl
set_option linter.all false
set_option maxRecDepth 20000
set_option maxHeartbeats 4000000
theorem wHI39a {α : Prop} (h : α := by repeat (first | exact trivial | refine ⟨⟨_, rfl, .inl ⟨rfl, rfl⟩⟩, ?_⟩)) : α := h
theorem wHI39b {α : Prop} (h : α := by repeat (first | exact trivial | refine ⟨wS, ?_⟩ | refine ⟨ent_same rfl rfl (rfEq rfl tU) tL, ?_⟩ | refine ⟨ent_same rfl rfl (flEq rfl (by first | (simp; done) | (simp; omega) | (simp [Pl.encIh, encLr, encP]; done) | simp [maxC, minC])) trivial, ?_⟩)) : α := h
theorem sameH_c (a b : List IHop) (ha : lenOk a.length) (hb0 : lenOk b.length) : Pure Tryz.prog 5 [VIh a, VIh b] (Bf (decide (a = b))) := by
 refine Meets.intro Tryz.func5 rfl (Nat.le_of_ble_eq_true rfl) fun C hC => ?_
 simp only [List.map, argEnv, Nat.reduceAdd]
 refine nK ?_
 refine za ?_
 refine ze ?_
 refine zb ?_
 refine nK ?_
 refine za ?_
 refine zc ?_
 refine zk ?_
 refine zc ?_
 refine zk ?_
 refine zbk ?_
 refine zb ?_
 refine nK ?_
 refine n_cond _ rfl (fun hb => ?_) (fun hb => ?_)
 ·have e : decide (a = b) = false := by
   rw [decide_eq_false_iff_not]; rintro rfl; simp at hb
  rw [e]
  refine nK ?_
  refine za ?_
  refine ze ?_
  refine zb ?_
  refine nK ?_
  exact wO hC
 have hl : a.length = b.length := by simp at hb; omega
 refine nK ?_
 refine za ?_
 refine ze ?_
 refine zb ?_
 refine nK ?_
 refine n_loop (ι := Nat) (fun i => ([(0, .fz (VIh a)), (1, .fz (VIh b)), (5, IV .i64 i)], [], 0)) (fun i => i ≤ a.length ∧ (a = b ↔ a.drop i = b.drop i)) (fun i => a.length - i) 0 ⟨Nat.zero_le _, Iff.rfl⟩ ?_ ?_
 ·refine Next.weak [] [] (by rfl) (keeps0 hC _) wHI39a wHI39b wN rel_intro
 intro i ⟨hi, ho⟩ K hK
 refine nK ?_
 refine za ?_
 refine zc ?_
 refine zc ?_
 refine zk ?_
 refine zn ?_
 refine zb ?_
 refine nK ?_
 refine n_cond _ rfl (fun hb => ?_) (fun hb => ?_)
 ·have hlt : i < a.length := by simp at hb; omega
  have hlt2 : i < b.length := by omega
  rw [same_step hlt hlt2] at ho
  have hr1 := row_at' encIh a i hlt
  have hr2 := row_at' encIh b i hlt2
  have hK1 := fun h => hK (i + 1) ⟨by omega, h⟩ (by omega)
  generalize a[i] = x at *
  generalize b[i] = y at *
  refine nK ?_
  refine s_draw mixed ?_
  refine zc ?_
  refine zc ?_
  refine zr ?_
  refine zv ?_
  refine zc ?_
  refine zc ?_
  refine zr ?_
  refine zv ?_
  refine zcq ?_
  refine zq ?_
  refine nK ?_
  refine n_cond _ rfl (fun hb => ?_) (fun hb => ?_)
  ·have e : decide (a = b) = false := by
    rw [decide_eq_false_iff_not, ho]; rw [eqFs_encIh] at hb; simp at hb; exact fun h => hb h.1
   rw [e]
   refine nK ?_
   refine za ?_
   refine ze ?_
   refine zb ?_
   refine nK ?_
   exact wO hC
  rw [eqFs_encIh] at hb
  refine nK ?_
  refine za ?_
  refine zc ?_
  refine zj ?_
  refine zd ?_
  refine zb ?_
  refine nK ?_
  refine Next.weak [] [] (by rfl) (keeps0 hC _) wHI39a wHI39b wN (hK1 (ho.trans ⟨fun h => h.2, fun h => ⟨by simpa using hb, h⟩⟩))
 have hie : i = a.length := by simp at hb; omega
 have e : decide (a = b) = true := by
  rw [decide_eq_true_iff, ho, hie, List.drop_length, hl, List.drop_length]
 rw [e]
 refine nK ?_
 refine za ?_
 refine ze ?_
 refine zb ?_
 refine nK ?_
 exact wO hC
theorem beforeI_c (a b : IHop) : Pure Tryz.prog 37 [.agg (encIh a), .agg (encIh b)] (Bf (decide (ltIh a b))) := by
 refine Meets.intro Tryz.func37 rfl (Nat.le_of_ble_eq_true rfl) fun C hC => ?_
 simp only [List.map, argEnv, Nat.reduceAdd]
 refine nK ?_
 refine za ?_
 refine zu ?_
 refine zu ?_
 refine ze ?_
 refine zb ?_
 refine nK ?_
 refine za ?_
 refine zf ?_
 refine zh ?_
 refine zf ?_
 refine zh ?_
 refine zbk ?_
 refine zb ?_
 refine nK ?_
 refine n_cond _ rfl (fun hb => ?_) (fun hb => ?_)
 ·have e : decide (ltIh a b) = decide (a.ifc < b.ifc) := by
   rw [decide_eq_decide]; simp at hb; unfold ltIh; omega
  rw [e]
  refine nK ?_
  refine za ?_
  refine zf ?_
  refine zh ?_
  refine zf ?_
  refine zh ?_
  refine zn ?_
  refine zd ?_
  refine zb ?_
  refine nK ?_
  exact wO hC
 have h1 : a.ifc = b.ifc := by simpa using hb
 refine nK ?_
 refine za ?_
 refine zf ?_
 refine zh ?_
 refine zf ?_
 refine zh ?_
 refine zbk ?_
 refine zb ?_
 refine nK ?_
 refine n_cond _ rfl (fun hb => ?_) (fun hb => ?_)
 ·have e : decide (ltIh a b) = decide (a.ad < b.ad) := by
   rw [decide_eq_decide]; simp at hb; unfold ltIh; omega
  rw [e]
  refine nK ?_
  refine za ?_
  refine zf ?_
  refine zh ?_
  refine zf ?_
  refine zh ?_
  refine zn ?_
  refine zd ?_
  refine zb ?_
  refine nK ?_
  exact wO hC
 have h2 : a.ad = b.ad := by simpa using hb
 have e : decide (ltIh a b) = decide (a.ro < b.ro) := by
  rw [decide_eq_decide]; unfold ltIh; omega
 rw [e]
 refine nK ?_
 refine za ?_
 refine zf ?_
 refine zh ?_
 refine zf ?_
 refine zh ?_
 refine zn ?_
 refine zd ?_
 refine zb ?_
 refine nK ?_
 exact wO hC
theorem lessI_c (p q : Pfx) : Pure Tryz.prog 11 [.agg (encP p), .agg (encP q)] (Bf (decide (ltPf p q))) := by
 have e : decide (ltPf p q) = (decide ((p.addr : Int) < q.addr) || (decide ((p.addr : Int) = q.addr) && decide (p.len < q.len))) := by
  have h1 : ((p.addr : Int) < q.addr) ↔ p.addr < q.addr := by omega
  have h2 : ((p.addr : Int) = q.addr) ↔ p.addr = q.addr := by omega
  simp only [h1, h2]
  rw [Bool.eq_iff_iff, decide_eq_true_iff]; simp [ltPf]
 rw [e]
 refine Meets.intro Tryz.func11 rfl (Nat.le_of_ble_eq_true rfl) fun C hC => ?_
 simp only [List.map, argEnv, Nat.reduceAdd]
 refine nK ?_
 refine za ?_
 refine zu ?_
 refine zu ?_
 refine ze ?_
 refine zb ?_
 refine nK ?_
 refine za ?_
 refine zf ?_
 refine zh ?_
 refine zf ?_
 refine zh ?_
 refine zn ?_
 refine zc ?_
 refine zp ?_
 refine zs ?_
 refine zp ?_
 refine zs ?_
 refine zbp ?_
 refine zce ?_
 refine zp ?_
 refine zs ?_
 refine zp ?_
 refine zs ?_
 refine zcv ?_
 refine zco ?_
 refine zbd ?_
 refine zd ?_
 refine zb ?_
 refine nK ?_
 exact wO hC
theorem add_step (h : IHop) (x : IHop) (l : List IHop) (d : Bool) : addGo h d (x :: l) = (if (!(d || decide (x = h)) && decide (ltIh h x)) = true then [h] else []) ++ [x] ++ addGo h ((d || decide (x = h)) || (!(d || decide (x = h)) && decide (ltIh h x))) l := by
 simp only [addGo]
 cases hd : (d || decide (x = h)) with
 | true => simp
 | false =>
  by_cases c : ltIh h x
  ·simp [c]
  simp [c]
theorem addGo_len (h : IHop) : ∀ (l : List IHop) (d : Bool), (addGo h d l).length ≤ l.length + 1
 | [], d => by simp only [addGo]; split <;> simp
 | x :: l, d => by
  simp only [addGo]
  have h1 := addGo_len h l true
  have h2 := addGo_len h l false
  rw [addGo_true] at *
  split
  ·simp
  split
  ·simp
  simp only [List.length_cons]; omega
theorem addI_f (l : List IHop) (h : IHop) (hn : l.length ≤ 40000000) : Meets Tryz.prog 16 ([VIh l, .agg (encIh h)].map PV.fz) 0 [] (.sl 0 3 0 (addH l h).length) [(0, OIh (addH l h))] 1 := by
 unfold addH
 refine Meets.intro Tryz.func16 rfl (Nat.le_of_ble_eq_true rfl) fun C hC => ?_
 simp only [List.map, argEnv, Nat.reduceAdd]
 refine nK ?_
 refine za ?_
 refine zu ?_
 refine ze ?_
 refine zb ?_
 refine nK ?_
 refine za ?_
 refine zcx ?_
 refine zd ?_
 refine zb ?_
 refine nK ?_
 refine za ?_
 refine ze ?_
 refine zb ?_
 refine nK ?_
 refine za ?_
 refine ze ?_
 refine zb ?_
 refine nK ?_
 refine n_loop (ι := Nat × List IHop × Bool) (fun p => ([(0, .fz (VIh l)), (3, .ptr 0 3 0 0), (5, .sl 1 3 0 p.2.1.length), (6, BV p.2.2), (7, IV .i64 p.1)], [(0, some (.flat 3 [encIh h])), (1, OIh p.2.1)], 2)) (fun p => p.1 ≤ l.length ∧ p.2.1.length ≤ 2 * p.1 ∧ p.2.1 ++ addGo h p.2.2 (l.drop p.1) = addGo h false l) (fun p => l.length - p.1) (0, [], false) ⟨Nat.zero_le _, by simp, by simp⟩ ?_ ?_
 ·refine Next.weakS [3, 5] [] (by rfl) (wK hC) wG wHI39b rfl (rel_intro)
 intro ⟨i, c, d⟩ ⟨hi, hcl, hS⟩ K hK
 dsimp only at hi hcl hS ⊢
 refine nK ?_
 refine za ?_
 refine zc ?_
 refine zc ?_
 refine zk ?_
 refine zn ?_
 refine zb ?_
 refine nK ?_
 refine n_cond _ rfl (fun hb => ?_) (fun hb => ?_)
 ·have hlt : i < l.length := by simp at hb; omega
  have hr1 := row_at' encIh l i hlt
  rw [List.drop_eq_getElem_cons hlt, add_step] at hS
  have hK1 := fun c2 d2 h1 h2 => hK (i + 1, c2, d2) ⟨by dsimp only; omega, h1, h2⟩ (by dsimp only; omega)
  dsimp only at hK1
  generalize l[i] = x at *
  have hbf := beforeI_c h x
  have heq := eqFs_encIh x h
  clear hK
  refine nK ?_
  refine s_draw mixed ?_
  refine zc ?_
  refine zc ?_
  refine zr ?_
  refine zv ?_
  refine zm ?_
  refine zcp ?_
  refine zq ?_
  refine nK ?_
  refine n_cond _ rfl (fun hb => ?_) (fun hb => ?_)
  ·have hx : x = h := by rw [heq] at hb; simpa using hb
   have e1 : (d || decide (x = h)) = true := by rw [hx]; simp
   rw [e1, Bool.not_true, Bool.false_and, Bool.true_or, if_neg Bool.false_ne_true, List.nil_append, ← List.append_assoc] at hS
   have e2 : (c ++ [x]).length = c.length + 1 := by simp
   have hK2 := hK1 (c ++ [x]) true (by omega) hS
   rw [e2] at hK2
   refine nK ?_
   refine za ?_
   refine ze ?_
   refine zb ?_
   refine nK ?_
   refine s_draw mixed ?_
   refine zc ?_
   refine zbj ?_
   refine zc ?_
   refine zby ?_
   refine zl ?_
   refine zl ?_
   refine zcu ?_
   refine zdv ?_
   refine rgZ 29 rfl rfl tG (op_call_pure (fun _ => hbf) rfl (Opd.func _) (oS (oO rfl tO) (oS (oO rfl tO) Opds.nil))) ?_
   refine zy ?_
   refine zq ?_
   refine nK ?_
   refine n_cond _ rfl (fun hb => ?_) (fun hb => ?_)
   ·exfalso; simp at hb
   refine nK ?_
   refine za ?_
   refine zc ?_
   refine zc ?_
   refine zc ?_
   refine zr ?_
   refine zv ?_
   refine zcz ?_
   refine zdd ?_
   refine zd ?_
   refine zb ?_
   refine nK ?_
   refine za ?_
   refine zc ?_
   refine zj ?_
   refine zd ?_
   refine zb ?_
   refine nK ?_
   refine Next.weakS [3, 5] [] (by rfl) (wK hC) wG wHI39b rfl (hK2)
  have hx : ¬ x = h := by rw [heq] at hb; simpa using hb
  have e1 : (d || decide (x = h)) = d := by simp [hx]
  rw [e1] at hS
  refine nK ?_
  refine s_draw mixed ?_
  refine zc ?_
  refine zbj ?_
  refine zc ?_
  refine zby ?_
  refine zl ?_
  refine zl ?_
  refine zcu ?_
  refine zdv ?_
  refine rgZ 29 rfl rfl tG (op_call_pure (fun _ => hbf) rfl (Opd.func _) (oS (oO rfl tO) (oS (oO rfl tO) Opds.nil))) ?_
  refine zy ?_
  refine zq ?_
  refine nK ?_
  refine n_cond _ rfl (fun hb => ?_) (fun hb => ?_)
  ·rw [hb, if_pos rfl, Bool.or_true, ← List.append_assoc, ← List.append_assoc] at hS
   have e2 : (c ++ [h] ++ [x]).length = c.length + 1 + 1 := by simp
   have hK2 := hK1 (c ++ [h] ++ [x]) true (by omega) hS
   rw [e2] at hK2
   refine nK ?_
   refine za ?_
   refine zc ?_
   refine zm ?_
   refine zcz ?_
   refine zdd ?_
   refine zd ?_
   refine zb ?_
   refine nK ?_
   refine za ?_
   refine ze ?_
   refine zb ?_
   refine nK ?_
   refine za ?_
   refine zc ?_
   refine zc ?_
   refine zc ?_
   refine zr ?_
   refine zv ?_
   refine zcz ?_
   refine zdd ?_
   refine zd ?_
   refine zb ?_
   refine nK ?_
   refine za ?_
   refine zc ?_
   refine zj ?_
   refine zd ?_
   refine zb ?_
   refine nK ?_
   refine Next.weakS [3, 5] [] (by rfl) (wK hC) wG wHI39b rfl (hK2)
  rw [hb, if_neg Bool.false_ne_true, Bool.or_false, List.nil_append, ← List.append_assoc] at hS
  have e2 : (c ++ [x]).length = c.length + 1 := by simp
  have hK2 := hK1 (c ++ [x]) d (by omega) hS
  rw [e2] at hK2
  refine nK ?_
  refine za ?_
  refine zc ?_
  refine zc ?_
  refine zc ?_
  refine zr ?_
  refine zv ?_
  refine zcz ?_
  refine zdd ?_
  refine zd ?_
  refine zb ?_
  refine nK ?_
  refine za ?_
  refine zc ?_
  refine zj ?_
  refine zd ?_
  refine zb ?_
  refine nK ?_
  refine Next.weakS [3, 5] [] (by rfl) (wK hC) wG wHI39b rfl (hK2)
 have hie : i = l.length := by simp at hb; omega
 rw [hie, List.drop_length] at hS
 rw [← hS]
 simp only [addGo]
 refine nK ?_
 refine za ?_
 refine zc ?_
 refine zbj ?_
 refine zb ?_
 refine nK ?_
 refine n_cond _ rfl (fun hb => ?_) (fun hb => ?_)
 ·have hd : d = false := by simpa using hb
  rw [hd, if_neg Bool.false_ne_true]
  have e2 : (c ++ [h]).length = c.length + 1 := by simp
  rw [e2]
  refine nK ?_
  refine za ?_
  refine zc ?_
  refine zm ?_
  refine zcz ?_
  refine zdd ?_
  refine zd ?_
  refine zb ?_
  refine nK ?_
  refine za ?_
  refine zc ?_
  refine zd ?_
  refine zb ?_
  refine nK ?_
  refine Next.weakS [4] [] (by rfl) (keeps0 hC _) (G' := [(4, .sl 0 3 0 (c.length + 1))]) (H' := [(0, OIh (c ++ [h]))]) wG wHI39b rfl ?_
  exact wO hC
 have hd : d = true := by simpa using hb
 rw [hd, if_pos rfl, List.append_nil]
 refine nK ?_
 refine za ?_
 refine zc ?_
 refine zd ?_
 refine zb ?_
 refine nK ?_
 exact wO hC
theorem addI_c (l : List IHop) (h : IHop) (hn : l.length ≤ 40000000) : Pure Tryz.prog 16 [VIh l, .agg (encIh h)] (VIh (addH l h)) := (addI_f l h hn).freeze (by simp)
theorem addH_len (l : List IHop) (h : IHop) : (addH l h).length ≤ l.length + 1 := addGo_len h l false
theorem foldH_len : ∀ (l o : List IHop), (l.foldl addH o).length ≤ o.length + l.length
 | [], o => by simp
 | h :: l, o => by
  have h1 := foldH_len l (addH o h)
  have h2 := addH_len o h
  rw [List.foldl_cons, List.length_cons]; omega
theorem foldl_takeI {α β : Type} (f : β → α → β) (o : β) {l : List α} {i : Nat} (h : i < l.length) : (l.take (i + 1)).foldl f o = f ((l.take i).foldl f o) l[i] := by
 rw [List.take_succ_eq_append_getElem h, List.foldl_append]; rfl
theorem rmergeI_c (a b : List IHop) (ha : a.length ≤ 10000000) (hb : b.length ≤ 10000000) : Pure Tryz.prog 7 [VIh a, VIh b] (VIh (mergeH a b)) := by
 rw [← mergeH_fold]
 refine Meets.intro Tryz.func7 rfl (Nat.le_of_ble_eq_true rfl) fun C hC => ?_
 simp only [List.map, argEnv, Nat.reduceAdd]
 refine nK ?_
 refine za ?_
 refine ze ?_
 refine zb ?_
 refine nK ?_
 refine za ?_
 refine rpZ 8 rfl (op_buildSlice_fz rfl (RowsF.nil _) rfl rfl) ?_
 refine zd ?_
 refine zb ?_
 refine nK ?_
 refine nK ?_
 refine za ?_
 refine ze ?_
 refine zb ?_
 refine nK ?_
 refine n_loop (ι := Nat) (fun i => ([(0, .fz (VIh a)), (1, .fz (VIh b)), (5, .fz (VIh ((a.take i).foldl addH []))), (6, IV .i64 i)], [], 0)) (fun i => i ≤ a.length) (fun i => a.length - i) 0 (Nat.zero_le _) ?_ ?_
 ·refine Next.weak [] [] (by rfl) (keeps0 hC _) wHI39a wHI39b wN rel_intro
 intro i hi K hK
 refine nK ?_
 refine za ?_
 refine zc ?_
 refine zc ?_
 refine zk ?_
 refine zn ?_
 refine zb ?_
 refine nK ?_
 refine n_cond _ rfl (fun hb => ?_) (fun hb => ?_)
 ·have hlt : i < a.length := by simp at hb; omega
  have hr1 := row_at' encIh a i hlt
  have hK1 := hK (i + 1) (by omega) (by omega)
  rw [foldl_takeI _ _ hlt] at hK1
  have hfl := foldH_len (a.take i) []
  have hti : (a.take i).length ≤ 10000000 := by simp; omega
  have had := addI_c ((a.take i).foldl addH []) a[i] (by simp at hfl; omega)
  generalize (a.take i).foldl addH [] = o at *
  generalize a[i] = x at *
  refine nK ?_
  refine za ?_
  refine zc ?_
  refine zc ?_
  refine zc ?_
  refine zr ?_
  refine zv ?_
  refine rpZ 20 rfl (op_call_pure (fun _ => had) rfl (Opd.func _) (oS (oT rfl) (oS (oT rfl) Opds.nil))) ?_
  refine zd ?_
  refine zb ?_
  refine nK ?_
  refine za ?_
  refine zc ?_
  refine zj ?_
  refine zd ?_
  refine zb ?_
  refine nK ?_
  refine Next.weak [] [] (by rfl) (keeps0 hC _) wHI39a wHI39b wN hK1
 have hie : i = a.length := by simp at hb; omega
 subst hie
 rw [List.take_length]
 have hfa := foldH_len a []
 generalize a.foldl addH [] = A at *
 clear hK
 refine nK ?_
 refine za ?_
 refine ze ?_
 refine zb ?_
 refine nK ?_
 refine n_loop (ι := Nat) (fun i => ([(1, .fz (VIh b)), (5, .fz (VIh ((b.take i).foldl addH A))), (7, IV .i64 i)], [], 0)) (fun i => i ≤ b.length) (fun i => b.length - i) 0 (Nat.zero_le _) ?_ ?_
 ·refine Next.weak [] [] (by rfl) (keeps0 hC _) wHI39a wHI39b wN rel_intro
 intro i hi K hK
 refine nK ?_
 refine za ?_
 refine zc ?_
 refine zc ?_
 refine zk ?_
 refine zn ?_
 refine zb ?_
 refine nK ?_
 refine n_cond _ rfl (fun hb => ?_) (fun hb => ?_)
 ·have hlt : i < b.length := by simp at hb; omega
  have hr1 := row_at' encIh b i hlt
  have hK1 := hK (i + 1) (by omega) (by omega)
  rw [foldl_takeI _ _ hlt] at hK1
  have hfl := foldH_len (b.take i) A
  have hti : (b.take i).length ≤ 10000000 := by simp; omega
  have had := addI_c ((b.take i).foldl addH A) b[i] (by simp at hfa; omega)
  generalize (b.take i).foldl addH A = o at *
  generalize b[i] = x at *
  refine nK ?_
  refine za ?_
  refine zc ?_
  refine zc ?_
  refine zc ?_
  refine zr ?_
  refine zv ?_
  refine rpZ 32 rfl (op_call_pure (fun _ => had) rfl (Opd.func _) (oS (oT rfl) (oS (oT rfl) Opds.nil))) ?_
  refine zd ?_
  refine zb ?_
  refine nK ?_
  refine za ?_
  refine zc ?_
  refine zj ?_
  refine zd ?_
  refine zb ?_
  refine nK ?_
  refine Next.weak [] [] (by rfl) (keeps0 hC _) wHI39a wHI39b wN hK1
 have hie : i = b.length := by simp at hb; omega
 subst hie
 rw [List.take_length]
 refine nK ?_
 refine za ?_
 refine zc ?_
 refine zd ?_
 refine zb ?_
 refine nK ?_
 exact wO hC
theorem sameR_c (a b : LRt) (ha : lenOk a.hs.length) (hb0 : lenOk b.hs.length) : Pure Tryz.prog 18 [.agg (encLr a), .agg (encLr b)] (Bf (decide (a.pf = b.pf) && decide (a.pr = b.pr) && decide (a.ar = b.ar) && decide (a.co = b.co) && decide (a.sc = b.sc) && decide (a.c2 = b.c2) && decide (a.tg = b.tg) && decide (a.hs = b.hs))) := by
 have hs := sameH_c a.hs b.hs ha hb0
 have hp := eqFs_encP a.pf b.pf
 rw [← hp]
 generalize decide (a.hs = b.hs) = dh at *
 refine Meets.intro Tryz.func18 rfl (Nat.le_of_ble_eq_true rfl) fun C hC => ?_
 simp only [List.map, argEnv, Nat.reduceAdd]
 refine nK ?_
 refine za ?_
 refine zu ?_
 refine zu ?_
 refine ze ?_
 refine zb ?_
 refine nK ?_
 refine za ?_
 refine zf ?_
 refine zbc ?_
 refine zf ?_
 refine zbc ?_
 refine zcp ?_
 refine zc ?_
 refine zp ?_
 refine zs ?_
 refine zp ?_
 refine zs ?_
 refine zbp ?_
 refine zy ?_
 refine zc ?_
 refine zp ?_
 refine zs ?_
 refine zp ?_
 refine zs ?_
 refine zbp ?_
 refine zy ?_
 refine zc ?_
 refine zp ?_
 refine zs ?_
 refine zp ?_
 refine zs ?_
 refine zbp ?_
 refine zy ?_
 refine zc ?_
 refine zp ?_
 refine zs ?_
 refine zp ?_
 refine zs ?_
 refine rgZ 36 rfl rfl tG (op_eqlB rfl (oO rfl tO) (oO rfl tO)) ?_
 refine zy ?_
 refine zc ?_
 refine zp ?_
 refine zs ?_
 refine zp ?_
 refine zs ?_
 refine zbp ?_
 refine zy ?_
 refine zc ?_
 refine zp ?_
 refine zs ?_
 refine zp ?_
 refine zs ?_
 refine zbp ?_
 refine zy ?_
 refine zc ?_
 refine zp ?_
 refine zs ?_
 refine zp ?_
 refine zs ?_
 refine rgZ 57 rfl rfl tG (op_call_pure (fun _ => hs) rfl (Opd.func _) (oS (oO rfl tO) (oS (oO rfl tO) Opds.nil))) ?_
 refine zy ?_
 refine zd ?_
 refine zb ?_
 refine nK ?_
 exact wO hC
end Go.Proofs.YtoeckbdgemnngaaGreat
/- The example of the document. No program in sight. -/
namespace Go.Pl
open Go Go.RT
set_option linter.all false
def rawI1 : Lsa := ⟨⟨1, 1, 0, 1, 1, 0, 0⟩, false, false, [⟨1, 2, 167772161, 5⟩, ⟨3, 167772160, 30, 5⟩], [], 0, false, 0, 0⟩
def rawI2 : Lsa := ⟨⟨1, 2, 0, 2, 1, 0, 0⟩, false, false, [⟨1, 1, 167772162, 1⟩, ⟨3, 167772160, 30, 1⟩, ⟨3, 167837696, 24, 3⟩], [], 0, false, 0, 0⟩
def lsI1 (s : Int) : Lsa := { rawI1 with h := ⟨1, 1, 0, 1, 1, 0, s⟩ }
def lsI2 (s : Int) : Lsa := { rawI2 with h := ⟨1, 2, 0, 2, 1, 0, s⟩ }
def dbI2 (s1 s2 : Int) : List Lsa := [lsI1 s1, lsI2 s2]
def exG : AGr := ⟨⟨2, 0, [⟨0, 1, 5⟩, ⟨1, 0, 1⟩]⟩, [1, 2], []⟩
def exT : Tr := ⟨0, [0, 5], [[], [1]], [[], [0]]⟩
def exN : Nbr := ⟨2, 167772162, 0, 0, 0, 6, 0, false, 0, [], [], false, [], [], 0⟩
def exI : Ifs := ⟨1, ⟨167772160, 30⟩, 167772161, 0, 5, 0, 0, 0, true, 0, 0, 0, 0, [exN]⟩
def exR1 : LRt := ⟨⟨167772160, 30⟩, 3, 0, 5, false, 0, 0, [⟨0, 0, 0⟩]⟩
def exR2 : LRt := ⟨⟨167837696, 24⟩, 3, 0, 8, false, 0, 0, [⟨0, 167772162, 2⟩]⟩
theorem exC1 (s1 s2 : Int) : cntL 1 (dbI2 s1 s2) = dbI2 s1 s2 := rfl
theorem exC2 (s1 s2 : Int) : cntL 2 (dbI2 s1 s2) = [] := rfl
theorem exE (s1 s2 : Int) : edgesG (dbI2 s1 s2) [] = [⟨0, 1, 5⟩, ⟨1, 0, 1⟩] := rfl
theorem exOf : ofF 2 0 [⟨0, 1, 5⟩, ⟨1, 0, 1⟩] = (⟨2, 0, [⟨0, 1, 5⟩, ⟨1, 0, 1⟩]⟩, 0) := by
  have : ofL [⟨0, 1, 5⟩, ⟨1, 0, 1⟩] = [⟨0, 1, 5⟩, ⟨1, 0, 1⟩] := (ofL_least _).uniq ⟨by simp [AscK, ltK], by simp, by simp, by simp⟩
  unfold ofF; rw [this]; decide
theorem exBuild (s1 s2 : Int) : buildF (dbI2 s1 s2) = (exG, 0) := by
  unfold buildF
  rw [exC1, exC2]
  unfold buildG
  rw [exE]
  have e : ofF ((dbI2 s1 s2).length : Int) (([] : List Lsa).length : Int) [⟨0, 1, 5⟩, ⟨1, 0, 1⟩] = (⟨2, 0, [⟨0, 1, 5⟩, ⟨1, 0, 1⟩]⟩, 0) := exOf
  rw [e, if_neg (by decide)]; rfl
theorem exRun : RunOk exG.g 0 exT := by
  refine ⟨by decide, by decide, rfl, rfl, isD_cert (by decide) (by decide) fun v hv => ?_, by decide, [1], by decide, ?_, by decide +kernel⟩
  · have hv2 : v < 2 := hv
    match v, hv2 with
    | 0, _ => exact .inr .nil
    | 1, _ => exact .inr (Wk.one .nil 0 1 rfl rfl (k := 5) (by decide))
  · simp [ltHd, exT, gt0]
theorem exG_ok : okG exG.g := ⟨by decide, by decide, by unfold okEs okE exG; decide⟩
theorem exIdx : idxR exG 1 = 0 := by decide
theorem exIf : IfOk [exI] := ⟨by decide, fun s hs => by rw [List.mem_singleton.1 hs]; decide⟩
theorem exRoutes (s1 s2 : Int) : routesV ⟨exG, exT, ownAr 0 [exI]⟩ 1 0 (dbI2 s1 s2) = [exR1, exR2] := rfl
end Go.Pl
/- The reference's graph of an area. No program in sight. -/
namespace Go.Pl
open Go Go.RT
set_option linter.all false
def refP (i : Nat) (l : Lsa) : Nat → List Lsa → List Edg
  | _, [] => []
  | k, m :: t => (if (((cheapF 1 m.h.rt l).2 && (cheapF 1 l.h.rt m).2) && decide ((i : Int) ≠ (k : Int))) = true then [⟨i, k, (cheapF 1 m.h.rt l).1⟩] else []) ++ refP i l (k + 1) t
def refN (R i : Nat) (l : Lsa) : Nat → List Lsa → List Edg
  | _, [] => []
  | k, n :: t => (if ((cheapF 2 n.h.id l).2 && n.att.contains l.h.rt) = true then [⟨i, (R : Int) + k, (cheapF 2 n.h.id l).1⟩, ⟨(R : Int) + k, i, 0⟩] else []) ++ refN R i l (k + 1) t
def refA (rs ns : List Lsa) : Nat → List Lsa → List Edg
  | _, [] => []
  | i, l :: t => refP i l 0 rs ++ refN rs.length i l 0 ns ++ refA rs ns (i + 1) t
def refG (rs ns : List Lsa) : AGr × Int :=
  if 128 < rs.length + ns.length then (zeroR, 4) else
  if (ofF (rs.length : Int) (ns.length : Int) (refA rs ns 0 rs)).2 ≠ 0 then (zeroR, (ofF (rs.length : Int) (ns.length : Int) (refA rs ns 0 rs)).2)
  else (⟨(ofF (rs.length : Int) (ns.length : Int) (refA rs ns 0 rs)).1, rs.map fun l => l.h.rt, ns.map netOf⟩, 0)
def refF (db : List Lsa) : AGr × Int := refG (cntL 1 db) (cntL 2 db)
open Go.RT
end Go.Pl
/- Two lists of edges with the same cheapest ones give the same graph. No program in sight. -/
namespace Go.Pl
open Go Go.RT
set_option linter.all false
theorem ofL_eq {a b : List Edg} (h1 : ∀ e ∈ b, e ∈ a) (h2 : ∀ e ∈ a, ∃ e' ∈ b, e'.f = e.f ∧ e'.t = e.t ∧ e'.c ≤ e.c) : ofL a = ofL b := by
  have hb := ofL_least b
  refine (ofL_least a).uniq ⟨hb.asc, fun e he => h1 e (hb.sub e he), fun e he e' he' k1 k2 => ?_, fun e' he' => ?_⟩
  · obtain ⟨q, hq, q1, q2, q3⟩ := h2 e' he'
    have := hb.min e he q hq (q1.trans k1) (q2.trans k2)
    omega
  · obtain ⟨q, hq, q1, q2, _⟩ := h2 e' he'
    obtain ⟨e, he, e1, e2⟩ := hb.all q hq
    exact ⟨e, he, e1.trans q1, e2.trans q2⟩
open Go.RT
/-- the nodes of routers whose identities are apart -/
theorem nodes_get : ∀ (l : List Lsa) (i : Nat) (m : List (Int × Int)), (l.Pairwise fun a b => a.h.rt ≠ b.h.rt) → ∀ id, mget (nodesGo i l m) id = match l.findIdx? (fun x => decide (x.h.rt = id)) with | some j => some ((i + j : Nat) : Int) | none => mget m id
  | [], i, m, _, id => rfl
  | x :: l, i, m, h, id => by
    obtain ⟨h1, h2⟩ := List.pairwise_cons.1 h
    simp only [nodesGo]
    rw [nodes_get l (i + 1) _ h2 id, mget_mput, List.findIdx?_cons]
    by_cases hx : x.h.rt = id
    · have : l.findIdx? (fun y => decide (y.h.rt = id)) = none := List.findIdx?_eq_none_iff.2 fun y hy => by
        have := h1 y hy; rw [hx] at this; simpa using Ne.symm this
      rw [this]; simp [hx]
    · simp only [hx, decide_false, Bool.false_eq_true, if_false]
      cases l.findIdx? (fun y => decide (y.h.rt = id)) with
      | none => rfl
      | some j => simp; omega
open Go.RT
theorem tow_get : ∀ (l : List Lsa) (m : List (Int × List (Int × Bool))), (l.Pairwise fun a b => a.h.rt ≠ b.h.rt) → ∀ id, mget (towGo l m) id = match l.find? (fun x => decide (x.h.rt = id)) with | some x => some (ptsM x.ls) | none => mget m id
  | [], m, _, id => rfl
  | x :: l, m, h, id => by
    obtain ⟨h1, h2⟩ := List.pairwise_cons.1 h
    simp only [towGo]
    rw [tow_get l _ h2 id, mget_mput, List.find?_cons]
    by_cases hx : x.h.rt = id
    · have : l.find? (fun y => decide (y.h.rt = id)) = none := List.find?_eq_none.2 fun y hy => by
        have := h1 y hy; rw [hx] at this; simpa using Ne.symm this
      rw [this]; simp [hx]
    · simp only [hx, decide_false, if_false]
theorem pts_get : ∀ (l : List Lnk) (m : List (Int × Bool)) (id : Int), (mget (ptsGo l m) id).getD false = (decide (∃ x ∈ l, x.k = 1 ∧ x.id = id) || (mget m id).getD false)
  | [], m, id => by simp [ptsGo]
  | x :: l, m, id => by
    simp only [ptsGo]
    rw [pts_get l _ id]
    by_cases hk : x.k = 1
    · simp only [hk, decide_true, if_true]
      rw [mget_mput]
      by_cases hi : x.id = id
      · simp [hk, hi]
      · simp [hk, hi]
    · simp [hk]
end Go.Pl
/- The cheapest link of a kind to an identity. No program in sight. -/
namespace Go.Pl
open Go Go.RT
set_option linter.all false
theorem cheapGo_spec (k id : Int) : ∀ (l : List Lnk) (p : Int × Bool),
    ((cheapGo k id l p).2 = true ↔ p.2 = true ∨ ∃ x ∈ l, x.k = k ∧ x.id = id) ∧
    ((cheapGo k id l p).2 = true → (p.2 = true ∧ (cheapGo k id l p).1 = p.1 ∨ ∃ x ∈ l, x.k = k ∧ x.id = id ∧ (cheapGo k id l p).1 = x.c) ∧ (p.2 = true → (cheapGo k id l p).1 ≤ p.1) ∧ ∀ x ∈ l, x.k = k → x.id = id → (cheapGo k id l p).1 ≤ x.c)
  | [], p => by
    refine ⟨by simp [cheapGo], fun h => ⟨.inl ⟨h, rfl⟩, fun _ => Int.le_refl _, fun x hx => by simp at hx⟩⟩
  | x :: l, p => by
    simp only [cheapGo]
    by_cases c : ((decide (x.k = k) && decide (x.id = id)) && (!p.2 || decide (x.c < p.1))) = true
    · rw [if_pos c]
      obtain ⟨h1, h2⟩ := cheapGo_spec k id l (x.c, true)
      have hx : x.k = k ∧ x.id = id := by simp at c; exact c.1
      have ht : (cheapGo k id l (x.c, true)).2 = true := h1.2 (.inl rfl)
      obtain ⟨a1, a2, a3⟩ := h2 ht
      refine ⟨⟨fun _ => .inr ⟨x, List.mem_cons_self .., hx⟩, fun _ => ht⟩, fun _ => ⟨?_, fun hp => ?_, fun y hy hk hi => ?_⟩⟩
      · rcases a1 with ⟨_, e⟩ | ⟨y, hy, e⟩
        · exact .inr ⟨x, List.mem_cons_self .., hx.1, hx.2, e⟩
        · exact .inr ⟨y, List.mem_cons_of_mem _ hy, e⟩
      · have : x.c < p.1 := by simp [hp] at c; exact c.2
        have := a2 rfl
        simp only at this; omega
      · rcases List.mem_cons.1 hy with rfl | hy
        · exact a2 rfl
        · exact a3 y hy hk hi
    · rw [if_neg c]
      obtain ⟨h1, h2⟩ := cheapGo_spec k id l p
      refine ⟨⟨fun h => (h1.1 h).imp (fun h => h) fun ⟨y, hy, e⟩ => ⟨y, List.mem_cons_of_mem _ hy, e⟩, fun h => ?_⟩, fun ht => ?_⟩
      · rcases h with h | ⟨y, hy, e⟩
        · exact h1.2 (.inl h)
        · rcases List.mem_cons.1 hy with rfl | hy
          · refine h1.2 (.inl ?_)
            simp [e.1, e.2] at c; exact c.1
          · exact h1.2 (.inr ⟨y, hy, e⟩)
      · obtain ⟨a1, a2, a3⟩ := h2 ht
        refine ⟨a1.imp (fun h => h) fun ⟨y, hy, e⟩ => ⟨y, List.mem_cons_of_mem _ hy, e⟩, a2, fun y hy hk hi => ?_⟩
        rcases List.mem_cons.1 hy with rfl | hy
        · simp [hk, hi] at c
          have := a2 c.1
          omega
        · exact a3 y hy hk hi
theorem cheap_has {k id : Int} {l : Lsa} : (cheapF k id l).2 = true ↔ ∃ x ∈ l.ls, x.k = k ∧ x.id = id := by
  have := (cheapGo_spec k id l.ls (0, false)).1
  simpa [cheapF] using this
theorem cheap_at {k id : Int} {l : Lsa} (h : (cheapF k id l).2 = true) : ∃ x ∈ l.ls, x.k = k ∧ x.id = id ∧ (cheapF k id l).1 = x.c := by
  have := ((cheapGo_spec k id l.ls (0, false)).2 h).1
  simpa [cheapF] using this
theorem cheap_le {k id : Int} {l : Lsa} {x : Lnk} (hx : x ∈ l.ls) (hk : x.k = k) (hi : x.id = id) : (cheapF k id l).2 = true ∧ (cheapF k id l).1 ≤ x.c := by
  have h : (cheapF k id l).2 = true := cheap_has.2 ⟨x, hx, hk, hi⟩
  exact ⟨h, ((cheapGo_spec k id l.ls (0, false)).2 h).2.2 x hx hk hi⟩
end Go.Pl
/- The reference's edges and the program's have the same cheapest ones. No program in sight. -/
namespace Go.Pl
open Go Go.RT
set_option linter.all false
abbrev apartA (l : List Lsa) : Prop := l.Pairwise fun a b => a.h.rt ≠ b.h.rt
theorem apart_idx {l : List Lsa} (h : apartA l) {i j : Nat} (hi : i < l.length) (hj : j < l.length) (e : l[i].h.rt = l[j].h.rt) : i = j := by
  rcases Nat.lt_trichotomy i j with c | c | c
  · exact absurd e (List.pairwise_iff_getElem.1 h i j hi hj c)
  · exact c
  · exact absurd e.symm (List.pairwise_iff_getElem.1 h j i hj hi c)
theorem mem_refP {i : Nat} {l : Lsa} {e : Edg} : ∀ (t : List Lsa) (k : Nat), e ∈ refP i l k t ↔ ∃ j, ∃ h : j < t.length, (cheapF 1 t[j].h.rt l).2 = true ∧ (cheapF 1 l.h.rt t[j]).2 = true ∧ i ≠ k + j ∧ e = ⟨i, ((k + j : Nat) : Int), (cheapF 1 t[j].h.rt l).1⟩
  | [], k => by simp [refP]
  | m :: t, k => by
    simp only [refP, List.mem_append]
    rw [mem_refP t (k + 1)]
    constructor
    · rintro (h | ⟨j, hj, h1, h2, h3, h4⟩)
      · by_cases c : (((cheapF 1 m.h.rt l).2 && (cheapF 1 l.h.rt m).2) && decide ((i : Int) ≠ (k : Int))) = true
        · rw [if_pos c] at h
          simp only [Bool.and_eq_true, decide_eq_true_eq] at c
          refine ⟨0, by simp, c.1.1, c.1.2, ?_, ?_⟩
          · have := c.2; omega
          · simpa using h
        · rw [if_neg c] at h; simp at h
      · refine ⟨j + 1, by simpa using hj, h1, h2, by omega, ?_⟩
        rw [h4]; simp; omega
    · rintro ⟨j, hj, h1, h2, h3, h4⟩
      cases j with
      | zero =>
        left
        have c : (((cheapF 1 m.h.rt l).2 && (cheapF 1 l.h.rt m).2) && decide ((i : Int) ≠ (k : Int))) = true := by
          have a1 : (cheapF 1 m.h.rt l).2 = true := h1
          have a2 : (cheapF 1 l.h.rt m).2 = true := h2
          rw [a1, a2]; simp; omega
        rw [if_pos c]; simpa using h4
      | succ j =>
        right
        refine ⟨j, by simpa using hj, h1, h2, by omega, ?_⟩
        rw [h4]; simp; omega
theorem mem_refN {R i : Nat} {l : Lsa} {e : Edg} : ∀ (t : List Lsa) (k : Nat), e ∈ refN R i l k t ↔ ∃ j, ∃ h : j < t.length, (cheapF 2 t[j].h.id l).2 = true ∧ t[j].att.contains l.h.rt = true ∧ (e = ⟨i, ((R + (k + j) : Nat) : Int), (cheapF 2 t[j].h.id l).1⟩ ∨ e = ⟨((R + (k + j) : Nat) : Int), i, 0⟩)
  | [], k => by simp [refN]
  | m :: t, k => by
    simp only [refN, List.mem_append]
    rw [mem_refN t (k + 1)]
    constructor
    · rintro (h | ⟨j, hj, h1, h2, h4⟩)
      · by_cases c : ((cheapF 2 m.h.id l).2 && m.att.contains l.h.rt) = true
        · rw [if_pos c] at h
          rw [Bool.and_eq_true] at c
          refine ⟨0, by simp, c.1, c.2, ?_⟩
          simpa using h
        · rw [if_neg c] at h; simp at h
      · refine ⟨j + 1, by simpa using hj, h1, h2, ?_⟩
        rw [show k + (j + 1) = k + 1 + j by omega]; exact h4
    · rintro ⟨j, hj, h1, h2, h4⟩
      cases j with
      | zero =>
        left
        have c : ((cheapF 2 m.h.id l).2 && m.att.contains l.h.rt) = true := by
          rw [Bool.and_eq_true]; exact ⟨h1, h2⟩
        rw [if_pos c]; simpa using h4
      | succ j =>
        right
        refine ⟨j, by simpa using hj, h1, h2, ?_⟩
        rw [show k + 1 + j = k + (j + 1) by omega]; exact h4
theorem mem_refA {rs ns : List Lsa} {e : Edg} : ∀ (t : List Lsa) (k : Nat), e ∈ refA rs ns k t ↔ ∃ i, ∃ h : i < t.length, e ∈ refP (k + i) t[i] 0 rs ∨ e ∈ refN rs.length (k + i) t[i] 0 ns
  | [], k => by simp [refA]
  | m :: t, k => by
    simp only [refA, List.mem_append]
    rw [mem_refA t (k + 1)]
    constructor
    · rintro (h | ⟨i, hi, h⟩)
      · exact ⟨0, by simp, h⟩
      · exact ⟨i + 1, by simpa using hi, by rw [show k + (i + 1) = k + 1 + i by omega]; exact h⟩
    · rintro ⟨i, hi, h⟩
      cases i with
      | zero => exact .inl h
      | succ i => exact .inr ⟨i, by simpa using hi, by rw [show k + 1 + i = k + (i + 1) by omega]; exact h⟩
theorem mem_netE {R i : Nat} {rt : Int} {x : Lnk} {e : Edg} : ∀ (t : List Lsa) (k : Nat), e ∈ netE R i rt x k t ↔ ∃ j, ∃ h : j < t.length, t[j].h.id = x.id ∧ t[j].att.contains rt = true ∧ (e = ⟨i, ((R + (k + j) : Nat) : Int), x.c⟩ ∨ e = ⟨((R + (k + j) : Nat) : Int), i, 0⟩)
  | [], k => by simp [netE]
  | m :: t, k => by
    simp only [netE, List.mem_append]
    rw [mem_netE t (k + 1)]
    constructor
    · rintro (h | ⟨j, hj, h1, h2, h4⟩)
      · by_cases c : (decide (m.h.id = x.id) && m.att.contains rt) = true
        · rw [if_pos c] at h
          rw [Bool.and_eq_true, decide_eq_true_eq] at c
          refine ⟨0, by simp, c.1, c.2, ?_⟩
          simpa using h
        · rw [if_neg c] at h; simp at h
      · refine ⟨j + 1, by simpa using hj, h1, h2, ?_⟩
        rw [show k + (j + 1) = k + 1 + j by omega]; exact h4
    · rintro ⟨j, hj, h1, h2, h4⟩
      cases j with
      | zero =>
        left
        have c : (decide (m.h.id = x.id) && m.att.contains rt) = true := by
          rw [Bool.and_eq_true, decide_eq_true_eq]; exact ⟨h1, h2⟩
        rw [if_pos c]; simpa using h4
      | succ j =>
        right
        refine ⟨j, by simpa using hj, h1, h2, ?_⟩
        rw [show k + 1 + j = k + (j + 1) by omega]; exact h4
theorem mem_rowE {nm : List (Int × Int)} {tm : List (Int × List (Int × Bool))} {R : Nat} {ns : List Lsa} {e : Edg} : ∀ (t : List Lsa) (k : Nat), e ∈ rowE nm tm R ns k t ↔ ∃ i, ∃ h : i < t.length, ∃ x ∈ t[i].ls, e ∈ lnkE nm tm R ns (k + i) t[i].h.rt x
  | [], k => by simp [rowE]
  | m :: t, k => by
    simp only [rowE, List.mem_append, List.mem_flatMap]
    rw [mem_rowE t (k + 1)]
    constructor
    · rintro (⟨x, hx, h⟩ | ⟨i, hi, x, hx, h⟩)
      · exact ⟨0, by simp, x, hx, h⟩
      · exact ⟨i + 1, by simpa using hi, x, hx, by rw [show k + (i + 1) = k + 1 + i by omega]; exact h⟩
    · rintro ⟨i, hi, x, hx, h⟩
      cases i with
      | zero => exact .inl ⟨x, hx, h⟩
      | succ i => exact .inr ⟨i, by simpa using hi, x, hx, by rw [show k + 1 + i = k + (i + 1) by omega]; exact h⟩
theorem node_at {rs : List Lsa} (h : apartA rs) {id : Int} {j : Nat} (hj : j < rs.length) (e : rs[j].h.rt = id) : mget (nodesGo 0 rs []) id = some (j : Int) ∧ mget (towGo rs []) id = some (ptsM rs[j].ls) := by
  have hf : ∀ x ∈ rs, x.h.rt = id → x = rs[j] := fun x hx hxe => by
    obtain ⟨k, hk, rfl⟩ := List.mem_iff_getElem.1 hx
    have := apart_idx h hk hj (hxe.trans e.symm)
    subst this; rfl
  constructor
  · rw [nodes_get rs 0 [] h id]
    cases hc : rs.findIdx? (fun x => decide (x.h.rt = id)) with
    | none => have := List.findIdx?_eq_none_iff.1 hc _ (List.getElem_mem hj); simp [e] at this
    | some k =>
      obtain ⟨hk, h1, _⟩ := List.findIdx?_eq_some_iff_getElem.1 hc
      have := apart_idx h hk hj (by rw [e]; simpa using h1)
      subst this; simp
  · rw [tow_get rs [] h id]
    cases hc : rs.find? (fun x => decide (x.h.rt = id)) with
    | none => have := List.find?_eq_none.1 hc _ (List.getElem_mem hj); simp [e] at this
    | some x =>
      rw [hf x (List.mem_of_find?_eq_some hc) (by simpa using List.find?_some hc)]
theorem node_none {rs : List Lsa} (h : apartA rs) {id : Int} (e : ∀ x ∈ rs, x.h.rt ≠ id) : mget (nodesGo 0 rs []) id = none := by
  rw [nodes_get rs 0 [] h id, List.findIdx?_eq_none_iff.2 fun x hx => by simpa using e x hx]; rfl
theorem mem_lnkE {rs ns : List Lsa} (h : apartA rs) {i : Nat} {rt : Int} {x : Lnk} {e : Edg} : e ∈ lnkE (nodesGo 0 rs []) (towGo rs []) rs.length ns i rt x ↔
    (x.k = 1 ∧ ∃ j, ∃ hj : j < rs.length, rs[j].h.rt = x.id ∧ (∃ y ∈ rs[j].ls, y.k = 1 ∧ y.id = rt) ∧ e = ⟨i, (j : Int), x.c⟩) ∨ (x.k = 2 ∧ e ∈ netE rs.length i rt x 0 ns) := by
  unfold lnkE
  by_cases hk1 : x.k = 1
  · have hk2 : ¬ x.k = 2 := by omega
    by_cases hc : ∃ j, ∃ hj : j < rs.length, rs[j].h.rt = x.id
    · obtain ⟨j, hj, hje⟩ := hc
      obtain ⟨e1, e2⟩ := node_at h hj hje
      rw [e1, e2]
      have hp := pts_get rs[j].ls [] rt
      simp only [mget, Option.getD_none, Bool.or_false] at hp
      simp only [Option.getD_some, Option.isSome_some, ptsM, hp, hk1, Int.reduceEq, decide_true, Bool.true_and, decide_false, Bool.false_eq_true, if_false, false_and, or_false, true_and, decide_eq_true_eq]
      constructor
      · intro he
        split at he
        · next c => exact ⟨j, hj, hje, c, by simpa using he⟩
        · simp at he
      · rintro ⟨k, hkl, h1, h2, h3⟩
        have := apart_idx h hkl hj (h1.trans hje.symm)
        subst this
        rw [if_pos h2, h3]; simp
    · have hn : mget (nodesGo 0 rs []) x.id = none := node_none h fun y hy hye => by
        obtain ⟨j, hj, rfl⟩ := List.mem_iff_getElem.1 hy
        exact hc ⟨j, hj, hye⟩
      rw [hn]
      simp only [hk1, Int.reduceEq, Option.isSome_none, decide_true, Bool.and_false, Bool.false_and, Bool.false_eq_true, decide_false, if_false, List.not_mem_nil, true_and, false_and, or_false, false_iff]
      rintro ⟨j, hj, hje, _⟩
      exact hc ⟨j, hj, hje⟩
  · simp only [hk1, decide_false, Bool.false_and, Bool.false_eq_true, if_false, false_and, false_or, decide_eq_true_eq]
    by_cases hk2 : x.k = 2
    · simp [hk2]
    · simp [hk2]
theorem edges_eq {rs ns : List Lsa} (h : apartA rs) (hl : ∀ l ∈ rs, ∀ x ∈ l.ls, x.k = 1 → x.id ≠ l.h.rt) : ofL (edgesG rs ns) = ofL (refA rs ns 0 rs) := by
  refine ofL_eq (fun e he => ?_) fun e he => ?_
  · obtain ⟨i, hi, he⟩ := (mem_refA rs 0).1 he
    refine (mem_rowE rs 0).2 ⟨i, hi, ?_⟩
    simp only [Nat.zero_add] at he ⊢
    rcases he with he | he
    · obtain ⟨j, hj, h1, h2, h3, h4⟩ := (mem_refP rs 0).1 he
      obtain ⟨x, hx, k1, k2, k3⟩ := cheap_at h1
      refine ⟨x, hx, (mem_lnkE h).2 (.inl ⟨k1, j, hj, k2.symm, cheap_has.1 h2, ?_⟩)⟩
      rw [h4, k3]; simp
    · obtain ⟨j, hj, h1, h2, h4⟩ := (mem_refN ns 0).1 he
      obtain ⟨x, hx, k1, k2, k3⟩ := cheap_at h1
      refine ⟨x, hx, (mem_lnkE h).2 (.inr ⟨k1, (mem_netE ns 0).2 ⟨j, hj, k2.symm, h2, ?_⟩⟩)⟩
      rw [k3] at h4; exact h4
  · obtain ⟨i, hi, x, hx, he⟩ := (mem_rowE rs 0).1 he
    simp only [Nat.zero_add] at he
    rcases (mem_lnkE h).1 he with ⟨k1, j, hj, k2, k3, rfl⟩ | ⟨k1, he⟩
    · obtain ⟨c1, c2⟩ := cheap_le (id := rs[j].h.rt) hx k1 k2.symm
      refine ⟨⟨i, (j : Int), (cheapF 1 rs[j].h.rt rs[i]).1⟩, (mem_refA rs 0).2 ⟨i, hi, .inl ((mem_refP rs 0).2 ⟨j, hj, by simpa using c1, by simpa using cheap_has.2 k3, ?_, by simp⟩)⟩, rfl, rfl, c2⟩
      simp only [Nat.zero_add]
      intro hij
      subst hij
      exact hl _ (List.getElem_mem hi) x hx k1 k2.symm
    · obtain ⟨j, hj, h1, h2, h4⟩ := (mem_netE ns 0).1 he
      obtain ⟨c1, c2⟩ := cheap_le (id := ns[j].h.id) hx k1 h1.symm
      rcases h4 with rfl | rfl
      · exact ⟨_, (mem_refA rs 0).2 ⟨i, hi, .inr ((mem_refN ns 0).2 ⟨j, hj, by simpa using c1, by simpa using h2, .inl rfl⟩)⟩, by simp, rfl, by simpa using c2⟩
      · exact ⟨_, (mem_refA rs 0).2 ⟨i, hi, .inr ((mem_refN ns 0).2 ⟨j, hj, by simpa using c1, by simpa using h2, .inr rfl⟩)⟩, by simp, by simp, by simp⟩
end Go.Pl
/- Build is the reference's Build. No program in sight. -/
namespace Go.Pl
open Go Go.RT
set_option linter.all false
def ltN (a b : Lnk) : Prop := lnkI a b < 0
theorem ltN_iff (a b : Lnk) : ltN a b ↔ a.k < b.k ∨ a.k = b.k ∧ (a.id < b.id ∨ a.id = b.id ∧ a.d < b.d) := by
  unfold ltN lnkI
  split
  · rw [cmpI_lt]; omega
  · split
    · rw [cmpI_lt]; omega
    · rw [cmpI_lt]; omega
theorem ltN.trans {a b c : Lnk} (h1 : ltN a b) (h2 : ltN b c) : ltN a c := by
  rw [ltN_iff] at *; omega
theorem links_cons (r : Int) (p : Option Lnk) (x : Lnk) (l : List Lnk) : linksGo r p (x :: l) = if linkE r x ≠ 0 then linkE r x else if badL p x = true then 16 else linksGo r (some x) l := by
  cases p <;> rfl
theorem badL_false {p : Option Lnk} {x : Lnk} : badL p x = false ↔ ∀ q, p = some q → ltN q x := by
  cases p with
  | none => simp [badL]
  | some q => simp [badL, ltN]
theorem links_iff {r : Int} : ∀ (l : List Lnk) (p : Option Lnk), linksGo r p l = 0 ↔ (∀ x ∈ l, linkE r x = 0) ∧ l.Pairwise ltN ∧ ∀ q, p = some q → ∀ x ∈ l, ltN q x
  | [], p => by simp [linksGo]
  | x :: l, p => by
    have ih := links_iff l (some x) (r := r)
    rw [links_cons]
    constructor
    · intro h
      by_cases h1 : linkE r x ≠ 0
      · rw [if_pos h1] at h; exact absurd h h1
      · rw [if_neg h1] at h
        by_cases h2 : badL p x = true
        · rw [if_pos h2] at h; cases h
        · rw [if_neg h2] at h
          obtain ⟨a1, a2, a3⟩ := ih.1 h
          have a4 := a3 x rfl
          have hb := badL_false.1 (by simpa using h2 : badL p x = false)
          refine ⟨fun y hy => ?_, List.pairwise_cons.2 ⟨a4, a2⟩, fun q hq y hy => ?_⟩
          · rcases List.mem_cons.1 hy with rfl | hy
            · simpa using h1
            · exact a1 y hy
          · rcases List.mem_cons.1 hy with rfl | hy
            · exact hb q hq
            · exact (hb q hq).trans (a4 y hy)
    · rintro ⟨a1, a2, a3⟩
      obtain ⟨b1, b2⟩ := List.pairwise_cons.1 a2
      rw [if_neg (by simp [a1 x (List.mem_cons_self ..)])]
      have hb : badL p x = false := badL_false.2 fun q hq => a3 q hq x (List.mem_cons_self ..)
      rw [if_neg (by simp [hb])]
      exact ih.2 ⟨fun y hy => a1 y (List.mem_cons_of_mem _ hy), b2, fun q hq y hy => by cases hq; exact b1 y hy⟩
theorem linkE_self {r : Int} {x : Lnk} (h : linkE r x = 0) (hk : x.k = 1) : x.id ≠ r := by
  unfold linkE at h
  by_cases c1 : (!inB x.k 1 3) = true
  · rw [if_pos c1] at h; cases h
  rw [if_neg c1] at h
  by_cases c2 : (!inB x.c 1 65535) = true
  · rw [if_pos c2] at h; cases h
  rw [if_neg c2] at h
  by_cases c3 : (decide (x.k = 1) && (decide (x.id = 0) || decide (x.id = r))) = true
  · rw [if_pos c3] at h; cases h
  simp [hk] at c3
  exact c3.2
theorem linksI_go {l : Lsa} (h : linksI l = 0) : linksGo l.h.rt none l.ls = 0 := by
  unfold linksI at h
  by_cases h1 : 64 < l.ls.length
  · rw [if_pos h1] at h; cases h
  · rw [if_neg h1] at h; exact h
theorem cnt_mem {k : Int} {db : List Lsa} {x : Lsa} (h : x ∈ cntL k db) : x ∈ db ∧ x.h.ty = k ∧ x.h.ag < 3600 := by
  obtain ⟨h1, h2⟩ := List.mem_filter.1 h
  simp only [cntB, Bool.and_eq_true, decide_eq_true_eq] at h2
  exact ⟨h1, h2⟩
theorem DbOk.apart {db : List Lsa} (h : DbOk db) : apartA (cntL 1 db) := by
  have h1 : (cntL 1 db).Pairwise keyLt := h.pw.filter _
  refine h1.imp_of_mem fun {a b} ha hb hab e => ?_
  obtain ⟨a1, a2, _⟩ := cnt_mem ha
  obtain ⟨b1, b2, _⟩ := cnt_mem hb
  exact hab.irr (by rw [h.router a1 a2, h.router b1 b2, e])
theorem DbOk.noself {db : List Lsa} (h : DbOk db) : ∀ l ∈ cntL 1 db, ∀ x ∈ l.ls, x.k = 1 → x.id ≠ l.h.rt := fun l hl x hx hk => by
  obtain ⟨a1, a2, _⟩ := cnt_mem hl
  have := linksI_go ((chkA_parts (h.chk l a1)).2.2.1 a2)
  exact linkE_self (((links_iff _ _).1 this).1 x hx) hk
theorem check_big {r n : Int} {es : List Edg} (hr : 0 ≤ r) (hn : 0 ≤ n) (h : 128 < r + n) : checkI ⟨r, n, es⟩ = 4 := by
  have : sizeI ⟨r, n, es⟩ = 4 := by
    unfold sizeI
    rw [if_neg (by simp only; omega), if_pos (by simp only; omega)]
  unfold checkI
  rw [this]; rfl
theorem build_eq {db : List Lsa} (h : DbOk db) : buildF db = refF db := by
  have he := edges_eq (ns := cntL 2 db) h.apart h.noself
  unfold buildF refF buildG refG
  have hof : ofF ((cntL 1 db).length : Int) ((cntL 2 db).length : Int) (edgesG (cntL 1 db) (cntL 2 db)) = ofF ((cntL 1 db).length : Int) ((cntL 2 db).length : Int) (refA (cntL 1 db) (cntL 2 db) 0 (cntL 1 db)) := by
    unfold ofF; rw [he]
  rw [hof]
  by_cases hb : 128 < (cntL 1 db).length + (cntL 2 db).length
  · rw [if_pos hb]
    have hc : (ofF ((cntL 1 db).length : Int) ((cntL 2 db).length : Int) (refA (cntL 1 db) (cntL 2 db) 0 (cntL 1 db))).2 = 4 := by
      unfold ofF
      rw [check_big (by omega) (by omega) (by omega)]; rfl
    rw [hc]; rfl
  · rw [if_neg hb]
/-- valid graphs, and every edge has one in the other direction -/
theorem both_ok {db : List Lsa} (h : DbOk db) (h0 : (buildF db).2 = 0) : checkI (buildF db).1.g = 0 ∧ ((buildF db).1.rs.length : Int) = (buildF db).1.g.r ∧ ((buildF db).1.ns.length : Int) = (buildF db).1.g.n ∧ ∀ e ∈ (buildF db).1.g.es, ∃ e' ∈ (buildF db).1.g.es, e'.f = e.t ∧ e'.t = e.f := by
  rw [build_eq h] at h0 ⊢
  unfold refF refG at *
  generalize cntL 1 db = rs at *
  generalize cntL 2 db = ns at *
  by_cases hb : 128 < rs.length + ns.length
  · rw [if_pos hb] at h0; cases h0
  rw [if_neg hb] at h0 ⊢
  by_cases hc : (ofF (rs.length : Int) (ns.length : Int) (refA rs ns 0 rs)).2 ≠ 0
  · rw [if_pos hc] at h0; exact absurd h0 hc
  rw [if_neg hc]
  unfold ofF at hc ⊢
  by_cases hk : checkI ⟨rs.length, ns.length, ofL (refA rs ns 0 rs)⟩ ≠ 0
  · rw [if_pos hk] at hc; exact absurd hk hc
  rw [if_neg hk]
  refine ⟨by simpa using hk, by simp, by simp, fun e he => ?_⟩
  have hL := ofL_least (refA rs ns 0 rs)
  obtain ⟨i, hi, hm⟩ := (mem_refA rs 0).1 (hL.sub e he)
  simp only [Nat.zero_add] at hm
  have back : ∃ e' ∈ refA rs ns 0 rs, e'.f = e.t ∧ e'.t = e.f := by
    rcases hm with hm | hm
    · obtain ⟨j, hj, h1, h2, h3, rfl⟩ := (mem_refP rs 0).1 hm
      refine ⟨⟨(j : Int), (i : Int), (cheapF 1 rs[i].h.rt rs[j]).1⟩, (mem_refA rs 0).2 ⟨j, hj, .inl ((mem_refP rs 0).2 ⟨i, hi, h2, h1, by omega, by simp⟩)⟩, by simp, rfl⟩
    · obtain ⟨j, hj, h1, h2, rfl | rfl⟩ := (mem_refN ns 0).1 hm
      · exact ⟨_, (mem_refA rs 0).2 ⟨i, hi, .inr ((mem_refN ns 0).2 ⟨j, hj, by simpa using h1, by simpa using h2, .inr rfl⟩)⟩, rfl, by simp⟩
      · exact ⟨_, (mem_refA rs 0).2 ⟨i, hi, .inr ((mem_refN ns 0).2 ⟨j, hj, by simpa using h1, by simpa using h2, .inl rfl⟩)⟩, by simp, by simp⟩
  obtain ⟨q, hq, q1, q2⟩ := back
  obtain ⟨e', he', k1, k2⟩ := hL.all q hq
  exact ⟨e', he', k1.trans q1, k2.trans q2⟩
end Go.Pl
/- Stub links, summaries and expired advertisements do not affect the graph. No program in sight. -/
namespace Go.Pl
open Go Go.RT
set_option linter.all false
def nosL (l : List Lnk) : List Lnk := l.filter fun x => decide (x.k ≠ 3)
structure LikeA (a b : Lsa) : Prop where
  ty : a.h.ty = b.h.ty
  id : a.h.id = b.h.id
  ln : a.h.ln = b.h.ln
  rt : a.h.rt = b.h.rt
  ag : a.h.ag = b.h.ag
  ls : a.ls = nosL b.ls
  att : a.att = b.att
/-- two lists, element by element alike -/
inductive Likes : List Lsa → List Lsa → Prop
  | nil : Likes [] []
  | cons {a b : Lsa} {k l : List Lsa} : LikeA a b → Likes k l → Likes (a :: k) (b :: l)
theorem Likes.len {k l : List Lsa} (h : Likes k l) : k.length = l.length := by
  induction h with
  | nil => rfl
  | cons _ _ ih => simp [ih]
theorem Likes.nodes {k l : List Lsa} (h : Likes k l) : ∀ i m, nodesGo i k m = nodesGo i l m := by
  induction h with
  | nil => intros; rfl
  | cons h _ ih => intro i m; simp only [nodesGo]; rw [h.rt, ih]
theorem Likes.netE {R i : Nat} {rt : Int} {x : Lnk} {k l : List Lsa} (h : Likes k l) : ∀ j, Go.Pl.netE R i rt x j k = Go.Pl.netE R i rt x j l := by
  induction h with
  | nil => intros; rfl
  | cons h _ ih => intro j; simp only [Go.Pl.netE]; rw [h.id, h.att, ih]
theorem flat_nos (f : Lnk → List Edg) (h : ∀ x, x.k = 3 → f x = []) : ∀ l : List Lnk, (nosL l).flatMap f = l.flatMap f
  | [] => rfl
  | x :: l => by
    have ih := flat_nos f h l
    unfold nosL at ih ⊢
    by_cases c : x.k = 3
    · rw [List.filter_cons_of_neg (by simp [c]), List.flatMap_cons, h x c]; simpa using ih
    · rw [List.filter_cons_of_pos (by simp [c]), List.flatMap_cons, List.flatMap_cons, ih]
theorem Likes.row {nm : List (Int × Int)} {tm : List (Int × List (Int × Bool))} {R : Nat} {n n' : List Lsa} (hn : Likes n n') {k l : List Lsa} (h : Likes k l) : ∀ i, rowE nm tm R n i k = rowE nm tm R n' i l := by
  induction h with
  | nil => intros; rfl
  | cons h _ ih =>
    intro i
    simp only [rowE]
    rw [h.ls, h.rt, ih]
    congr 1
    rw [flat_nos _ fun x hx => by simp [lnkE, hx]]
    congr 1
    funext x
    unfold lnkE
    rw [hn.netE]
end Go.Pl
/- Sizes of the graph of an area. No program in sight. -/
namespace Go.Pl
open Go Go.RT
set_option linter.all false
theorem build_ok {db : List Lsa} (hn : db.length ≤ 400) (ho : ∀ x ∈ db, okA x) : okG (buildF db).1.g := by
  have h1 := cnt_len 1 db
  have h2 := cnt_len 2 db
  have hz : okG zeroR.g := ⟨by simp [zeroR, zeroG, inr], by simp [zeroR, zeroG, inr], fun e he => by simp [zeroR, zeroG] at he⟩
  unfold buildF buildG
  have hro : ∀ x ∈ cntL 1 db, okA x := fun x hx => ho x (cnt_mem hx).1
  generalize cntL 1 db = rs at *
  generalize cntL 2 db = ns at *
  by_cases hc : (ofF (rs.length : Int) (ns.length : Int) (edgesG rs ns)).2 ≠ 0
  · rw [if_pos hc]; exact hz
  rw [if_neg hc]
  unfold ofF at hc ⊢
  by_cases hk : checkI ⟨rs.length, ns.length, ofL (edgesG rs ns)⟩ ≠ 0
  · rw [if_pos hk] at hc; exact absurd hk hc
  rw [if_neg hk]
  refine ofL_ok (by simp only [inr]; omega) (by simp only [inr]; omega) ?_
  refine rowE_ok (by omega) (by omega) ?_ rs 0 (by omega) hro
  intro q hq
  have : ∀ (l : List Lsa) (i : Nat) (m : List (Int × Int)), i + l.length ≤ 400 → (∀ q ∈ m, inr .i64 q.2) → ∀ q ∈ nodesGo i l m, inr .i64 q.2 := by
    intro l
    induction l with
    | nil => intro i m _ h; exact h
    | cons x l ih =>
      intro i m hi h
      simp only [List.length_cons] at hi
      refine ih (i + 1) _ (by omega) fun q hq => ?_
      rcases mput_vals _ _ _ _ hq with e | e
      · rw [e]; simp only [inr]; omega
      · exact h q e
  exact this rs 0 [] (by omega) (fun q hq => by simp at hq) q hq
end Go.Pl
/- Valid databases: what the routes stand on. No program in sight. -/
namespace Go.Pl
open Go Go.RT
set_option linter.all false
theorem cnt_sum : ∀ db : List Lsa, (cntL 1 db).length + (cntL 2 db).length ≤ db.length
  | [] => by simp [cntL]
  | x :: db => by
    have ih := cnt_sum db
    unfold cntL at *
    simp only [List.filter_cons]
    by_cases h1 : cntB 1 x = true
    · have h2 : ¬ cntB 2 x = true := fun h => by
        simp only [cntB, Bool.and_eq_true, decide_eq_true_eq] at h h1; omega
      rw [if_pos h1, if_neg h2]; simp only [List.length_cons]; omega
    · rw [if_neg h1]
      split <;> simp only [List.length_cons] <;> omega
theorem build_parts (db : List Lsa) : (buildF db).1 = zeroR ∨ ((buildF db).1.rs = (cntL 1 db).map (fun l => l.h.rt) ∧ (buildF db).1.ns = (cntL 2 db).map netOf) := by
  unfold buildF buildG
  split
  · exact .inl rfl
  · exact .inr ⟨rfl, rfl⟩
theorem build_sum (db : List Lsa) : (buildF db).1.rs.length + (buildF db).1.ns.length ≤ db.length := by
  rcases build_parts db with h | ⟨h1, h2⟩
  · rw [h]; simp [zeroR]
  · rw [h1, h2, List.length_map, List.length_map]; exact cnt_sum db
theorem build_rs {db : List Lsa} (ho : ∀ x ∈ db, okA x) : (∀ r ∈ (buildF db).1.rs, okU r) ∧ ∀ n ∈ (buildF db).1.ns, okV n := by
  rcases build_parts db with h | ⟨h1, h2⟩
  · rw [h]; simp [zeroR]
  · rw [h1, h2]
    refine ⟨fun r hr => ?_, fun n hn => ?_⟩
    · obtain ⟨x, hx, rfl⟩ := List.mem_map.1 hr
      exact (ho x (cnt_mem hx).1).1.2.2.2.1
    · obtain ⟨x, hx, rfl⟩ := List.mem_map.1 hn
      have h := (ho x (cnt_mem hx).1).1
      exact ⟨h.2.1, h.2.2.2.1, h.2.2.1⟩
theorem linkE_cost {r : Int} {x : Lnk} (h : linkE r x = 0) : 1 ≤ x.c ∧ x.c ≤ 65535 := by
  unfold linkE at h
  split at h
  · cases h
  · split at h
    · cases h
    · rename_i h2
      have : inB x.c 1 65535 = true := by
        cases hc : inB x.c 1 65535 with
        | true => rfl
        | false => rw [hc] at h2; exact absurd rfl h2
      simp only [inB, Bool.and_eq_true, decide_eq_true_eq] at this
      exact this
theorem stubs_ok {db : List Lsa} (h : DbOk db) (ho : ∀ x ∈ db, okA x) (r : Int) : (stubsA db r).length ≤ 64 ∧ ∀ x ∈ stubsA db r, okK x ∧ 1 ≤ x.c ∧ x.c ≤ 65535 := by
  unfold stubsA
  cases hf : db.find? (fun x => decide (keyA x.h = kOf r)) with
  | none => simp
  | some l =>
    have hl := List.mem_of_find?_eq_some hf
    have hk : keyA l.h = kOf r := by simpa using List.find?_some hf
    have hty : l.h.ty = 1 := congrArg KeyA.ty hk
    dsimp only
    split
    · simp
    · have hlen := (chkA_len (h.chk l hl)).1
      refine ⟨Nat.le_trans (List.length_filter_le _ _) hlen, fun x hx => ?_⟩
      have hxl := (List.mem_filter.1 hx).1
      have := linksI_go ((chkA_parts (h.chk l hl)).2.2.1 hty)
      exact ⟨(ho l hl).2.1 x hxl, linkE_cost (((links_iff _ _).1 this).1 x hxl)⟩
theorem rt_ok {db : List Lsa} (h : DbOk db) (ho : ∀ x ∈ db, okA x) (h60 : db.length ≤ 60) (he : (buildF db).2 = 0) {a : Nat} {t : Tr} (hr : RunOk (buildF db).1.g a t) {l : List Ifs} (hl : IfOk l) : RtOk ⟨(buildF db).1, t, l⟩ db := by
  obtain ⟨b1, b2, b3, _⟩ := both_ok h he
  have hs := build_sum db
  obtain ⟨hrs, hns⟩ := build_rs ho
  have hm : (buildF db).1.g.m = (buildF db).1.rs.length + (buildF db).1.ns.length := by unfold Gr.m; omega
  have vg := hr.vg
  have ham := hr.am
  refine ⟨vw_ok hr b2.symm b3.symm (by omega) hl, hns, hrs, fun d hd => ?_, by omega, fun x hx => ?_, fun r _ => ?_⟩
  · obtain ⟨v, hv, rfl⟩ := List.mem_iff_getElem.1 hd
    have hvm : v < (buildF db).1.g.m := by have := hr.dl; rw [this] at hv; exact hv
    have h1 := (hr.dist v hvm).small vg ham hvm
    have e : gt0 t.dist v = t.dist[v] := by simp [gt0, hv]
    rw [e] at h1
    show -1 ≤ t.dist[v] ∧ t.dist[v] ≤ 10000000
    omega
  · have := chkA_len (h.chk x hx); omega
  · obtain ⟨h1, h2⟩ := stubs_ok h ho r
    exact ⟨by omega, fun x hx => by obtain ⟨k1, k2, k3⟩ := h2 x hx; exact ⟨k1, by omega, k3⟩⟩
/-! ## what the routes say -/
theorem nets_ok {v : Vw} {db : List Lsa} (h : RtOk v db) : ∀ (l : List NetV) (i : Nat) (m : Best), (∀ n ∈ l, okV n) → BOk (ahF v) m → BOk (ahF v) (netsGo v i l m)
  | [], _, m, _, hm => hm
  | n :: l, i, m, hn, hm => nets_ok h l (i + 1) _ (fun y hy => hn y (List.mem_cons_of_mem _ hy)) (net1_ok h (hn n (List.mem_cons_self ..)) hm i)
theorem stubsG_ok {v : Vw} {db : List Lsa} (h : RtOk v db) {router r : Int} {node : Nat} : ∀ (l : List Lnk) (m : Best), (∀ x ∈ l, okK x) → BOk (ahF v) m → BOk (ahF v) (stubGo v router node r l m)
  | [], m, _, hm => hm
  | x :: l, m, hx, hm => stubsG_ok h l _ (fun y hy => hx y (List.mem_cons_of_mem _ hy)) (stub1_ok h (hx x (List.mem_cons_self ..)) hm router r node)
theorem rtsG_ok {v : Vw} {db : List Lsa} (h : RtOk v db) {router : Int} : ∀ (l : List Int) (i : Nat) (m : Best), (∀ r ∈ l, r ∈ v.g.rs) → BOk (ahF v) m → BOk (ahF v) (rtsGo v router db i l m)
  | [], _, m, _, hm => hm
  | r :: l, i, m, hr, hm => rtsG_ok h l (i + 1) _ (fun y hy => hr y (List.mem_cons_of_mem _ hy)) (stubsG_ok h _ _ (fun x hx => ((h.st r (hr r (List.mem_cons_self ..))).2 x hx).1) hm)
theorem best_ok {v : Vw} {db : List Lsa} (h : RtOk v db) (router : Int) : BOk (ahF v) (bestF v router db) :=
  rtsG_ok h _ _ _ (fun r hr => hr) (nets_ok h _ _ _ h.ns (BOk.nil _))
theorem routes_asc {v : Vw} {db : List Lsa} (h : RtOk v db) (router area : Int) : ascLr (routesV v router area db) := sortLr_asc (apart_of (best_ok h router).nd)
theorem routes_hs {v : Vw} {db : List Lsa} (h : RtOk v db) {router area : Int} {r : LRt} (hr : r ∈ routesV v router area db) : 0 < r.hs.length ∧ r.hs.length ≤ 50000000 ∧ ∀ x ∈ r.hs, x ∈ ahF v := by
  unfold routesV at hr
  rw [sortLr_mem] at hr
  obtain ⟨e, he, h1⟩ := List.mem_flatMap.1 hr
  obtain ⟨_, h3, h4⟩ := rtOf_pf h1
  have := (best_ok h router).hs e he
  rw [h3]
  exact ⟨by rw [← h3]; exact h4, this⟩
/-- a hop's interface is up and of the area -/
theorem ah_up {area : Int} {g : AGr} {t : Tr} {l : List Ifs} {x : IHop} (h : x ∈ ahF ⟨g, t, ownAr area l⟩) : ∃ j, ∃ hj : j < l.length, x.ifc = (j : Int) ∧ l[j].up = true ∧ l[j].ar = area := by
  obtain ⟨j, hj, h1, h2⟩ := ahGo_spec h
  have hj' : j < l.length := by simpa using hj
  have e : (ownAr area l)[j] = upF area l[j] := by simp [ownAr]
  dsimp only at h1
  rw [e] at h1
  simp only [upF, Bool.and_eq_true, decide_eq_true_eq] at h1
  exact ⟨j, hj', by rw [h2]; simp, h1.1, h1.2⟩
theorem routes_len {v : Vw} {db : List Lsa} (router area : Int) : (routesV v router area db).length ≤ (bestF v router db).length := by
  unfold routesV; rw [sortLr_len]; exact fm_rt_len area _
end Go.Pl
namespace Go.Pl
theorem netsG_len (v : Vw) : ∀ (l : List NetV) (i : Nat) (m : Best), (netsGo v i l m).length ≤ m.length + l.length
  | [], _, m => by simp [netsGo]
  | n :: l, i, m => by
    have h1 := netsG_len v l (i + 1) (net1 v i n m)
    have h2 := net1_len v i n m
    simp only [netsGo, List.length_cons]; omega
theorem stubG_len (v : Vw) (router r : Int) (node : Nat) : ∀ (l : List Lnk) (m : Best), (stubGo v router node r l m).length ≤ m.length + l.length
  | [], m => by simp [stubGo]
  | x :: l, m => by
    have h1 := stubG_len v router r node l (stub1 v router node r x m)
    have h2 := stub1_len v router r node x m
    simp only [stubGo, List.length_cons]; omega
theorem rtsG_len (v : Vw) (router : Int) (db : List Lsa) (B : Nat) (hB : ∀ r, (stubsA db r).length ≤ B) : ∀ (l : List Int) (i : Nat) (m : Best), (rtsGo v router db i l m).length ≤ m.length + l.length * B
  | [], _, m => by simp [rtsGo]
  | r :: l, i, m => by
    have h1 := rtsG_len v router db B hB l (i + 1) (stubGo v router i r (stubsA db r) m)
    have h2 := stubG_len v router r i (stubsA db r) m
    have h3 := hB r
    simp only [rtsGo, List.length_cons, Nat.add_mul, Nat.one_mul]; omega
theorem routes_small {v : Vw} {db : List Lsa} (hB : ∀ r, (stubsA db r).length ≤ 64) (hr : v.g.rs.length ≤ 1000) (hn : v.g.ns.length ≤ 1000) (router area : Int) : (routesV v router area db).length ≤ 100000 := by
  have h1 := @routes_len v db router area
  have h2 := rtsG_len v router db 64 hB v.g.rs 0 (netsGo v 0 v.g.ns [])
  have h3 := netsG_len v v.g.ns 0 []
  unfold bestF at h1
  simp only [List.length_nil] at h3
  omega
end Go.Pl
namespace Go.Proofs.YtoeckbdgemnngaaGreat
open Go Go.RT Go.Proofs Go.Pl
set_option linter.all false
set_option maxRecDepth 20000
set_option maxHeartbeats 4000000
abbrev rawS (id : Int) (ls : List Lnk) : Lsa := ⟨⟨1, id, 0, id, 1, 0, 0⟩, false, false, ls, [], 0, false, 0, 0⟩
abbrev lsaS (id : Int) (ls : List Lnk) (s : Int) : Lsa := ⟨⟨1, id, 0, id, 1, 0, s⟩, false, false, ls, [], 0, false, 0, 0⟩
theorem rawS_ok {id : Int} {ls : List Lnk} (hi : inr .u32 id) (hl : ∀ x ∈ ls, okK x) : okA (rawS id ls) :=
 ⟨⟨by simp [inr], hi, by simp [inr], hi, by simp [inr], by simp [inr], by simp [inr]⟩, hl, fun x hx => by simp at hx, by simp [inr], by simp [inr], by simp [inr]⟩
theorem sealed_s (id s : Int) (ls : List Lnk) (hi : inr .u32 id) (hl : ∀ x ∈ ls, okK x) (h0 : chkA (rawS id ls) = 0) (hsm : sumA (rawS id ls) = s) : Pure Tryz.prog 17 [If .u32 id, VL ls] (.agg (encA (lsaS id ls s))) := by
 have hs : Pure Tryz.prog 38 [.agg (encA (rawS id ls))] (.tup [.agg (encA (lsaS id ls s)), If .i64 0]) := by
  have h := seal_c (rawS id ls) (rawS_ok hi hl)
  have e : sealF (rawS id ls) = (lsaS id ls s, 0) := by unfold sealF; rw [if_neg (by simp [h0]), hsm]
  rw [e] at h
  exact h
 clear h0 hsm
 refine Meets.intro Tryz.func17 rfl (Nat.le_of_ble_eq_true rfl) fun C hC => ?_
 simp only [List.map, argEnv, Nat.reduceAdd]
 refine nK ?_
 refine za ?_
 refine zo ?_
 refine zb ?_
 refine nK ?_
 refine za ?_
 refine zc ?_
 refine zc ?_
 refine rpZ 10 rfl (op_build rfl rfl rfl (FillF.cons _ _ _ _ _ _ _ _ _ _ (by rfl) oC tC (by rfl) tR (FillF.cons _ _ _ _ _ _ _ _ _ _ (by rfl) (oT rfl) tC (by rfl) tR (FillF.cons _ _ _ _ _ _ _ _ _ _ (by rfl) (oT rfl) tC (by rfl) tR (FillF.cons _ _ _ _ _ _ _ _ _ _ (by rfl) oC tC (by rfl) tR (FillF.nil _)))))) ?_
 refine zc ?_
 refine rpZ 12 rfl (op_buildZ (encA zeroA) rfl rfl tZk (FillF.cons _ _ _ _ _ _ _ _ _ _ (by rfl) (oT rfl) tC (by rfl) tR (FillF.cons _ _ _ _ _ _ _ _ _ _ (by rfl) (oT rfl) tC (by rfl) tR (FillF.nil _)))) ?_
 refine rpZ 13 rfl (op_call_pure (fun _ => hs) rfl (Opd.func _) (oS (oT rfl) Opds.nil)) ?_
 refine zc ?_
 refine zi ?_
 refine zi ?_
 refine zo ?_
 refine zg ?_
 refine zd ?_
 refine zb ?_
 refine nK ?_
 refine za ?_
 refine zm ?_
 refine zg ?_
 refine zb ?_
 refine nK ?_
 exact wO hC
def zNb : Nbr := ⟨0, 0, 0, 0, 0, 0, 0, false, 0, [], [], false, [], [], 0⟩
theorem lives_c : Pure Tryz.prog 8 [] (Bf true) := by
 have s1 := sealed_s 1 _ rawI1.ls (by decide) (by unfold okK; decide) (by decide) rfl
 have s2 := sealed_s 2 _ rawI2.ls (by decide) (by unfold okK; decide) (by decide) rfl
 have o1 := sumA_ok (rawS 1 rawI1.ls)
 have o2 := sumA_ok (rawS 2 rawI2.ls)
 generalize sumA (rawS 1 rawI1.ls) = c1 at *
 generalize sumA (rawS 2 rawI2.ls) = c2 at *
 have hok : ∀ x ∈ dbI2 c1 c2, okA x := fun x hx => by
  rcases List.mem_cons.1 hx with rfl | hx
  ·exact ⟨⟨by simp [lsI1, inr], by simp [lsI1, inr], by simp [lsI1, inr], by simp [lsI1, inr], by simp [lsI1, inr], by simp [lsI1, inr], o1⟩, by unfold okK; show ∀ x ∈ rawI1.ls, _; decide, fun x hx => by simp [lsI1, rawI1] at hx, by simp [lsI1, rawI1, inr], by simp [lsI1, rawI1, inr], by simp [lsI1, rawI1, inr]⟩
  rw [List.mem_singleton.1 hx]
  exact ⟨⟨by simp [lsI2, inr], by simp [lsI2, inr], by simp [lsI2, inr], by simp [lsI2, inr], by simp [lsI2, inr], by simp [lsI2, inr], o2⟩, by unfold okK; show ∀ x ∈ rawI2.ls, _; decide, fun x hx => by simp [lsI2, rawI2] at hx, by simp [lsI2, rawI2, inr], by simp [lsI2, rawI2, inr], by simp [lsI2, rawI2, inr]⟩
 have hll : ∀ x ∈ dbI2 c1 c2, x.ls.length ≤ 64 ∧ x.att.length ≤ 64 := fun x hx => by
  rcases List.mem_cons.1 hx with rfl | hx
  ·exact ⟨by simp [lsI1, rawI1], by simp [lsI1, rawI1]⟩
  rw [List.mem_singleton.1 hx]; exact ⟨by simp [lsI2, rawI2], by simp [lsI2, rawI2]⟩
 have hb := build_c (dbI2 c1 c2) (by simp [dbI2]) hok hll
 rw [exBuild] at hb
 have hlk := look_ok (dbI2 c1 c2) 0 1 [exI] exG 0 exT (by decide) (by decide) exIdx exG_ok exRun hb
 have hro : RtOk ⟨exG, exT, ownAr 0 [exI]⟩ (dbI2 c1 c2) := by
  refine ⟨vw_ok exRun rfl rfl (by decide) (exIf.own 0), fun n hn => by simp [exG] at hn, fun r hr => by simp [exG] at hr; rcases hr with rfl | rfl <;> simp [okU, inr], fun d hd => by simp [exT] at hd; rcases hd with rfl | rfl <;> omega, by simp [dbI2], fun x hx => by have := hll x hx; omega, fun r hr => ?_⟩
  simp [exG] at hr
  rcases hr with rfl | rfl
  ·have e : stubsA (dbI2 c1 c2) 1 = [⟨3, 167772160, 30, 5⟩] := rfl
   rw [e]
   exact ⟨by simp, fun x hx => by rw [List.mem_singleton.1 hx]; simp [okK, inr]⟩
  have e : stubsA (dbI2 c1 c2) 2 = [⟨3, 167772160, 30, 1⟩, ⟨3, 167837696, 24, 3⟩] := rfl
  rw [e]
  exact ⟨by simp, fun x hx => by simp at hx; rcases hx with rfl | rfl <;> simp [okK, inr]⟩
 have hrt := routes_c (dbI2 c1 c2) 0 1 [exI] _ hro hlk
 rw [exRoutes] at hrt
 have q1 := sameR_c exR1 exR1 (by decide) (by decide)
 have q2 := sameR_c exR2 exR2 (by decide) (by decide)
 have q1' : Pure Tryz.prog 18 [.agg (encLr exR1), .agg (encLr exR1)] (Bf true) := by
  have e : (decide (exR1.pf = exR1.pf) && decide (exR1.pr = exR1.pr) && decide (exR1.ar = exR1.ar) && decide (exR1.co = exR1.co) && decide (exR1.sc = exR1.sc) && decide (exR1.c2 = exR1.c2) && decide (exR1.tg = exR1.tg) && decide (exR1.hs = exR1.hs)) = true := by simp
  rw [e] at q1; exact q1
 have q2' : Pure Tryz.prog 18 [.agg (encLr exR2), .agg (encLr exR2)] (Bf true) := by
  have e : (decide (exR2.pf = exR2.pf) && decide (exR2.pr = exR2.pr) && decide (exR2.ar = exR2.ar) && decide (exR2.co = exR2.co) && decide (exR2.sc = exR2.sc) && decide (exR2.c2 = exR2.c2) && decide (exR2.tg = exR2.tg) && decide (exR2.hs = exR2.hs)) = true := by simp
  rw [e] at q2; exact q2
 clear q1 q2 hro hlk hb hll hok o1 o2
 refine Meets.intro Tryz.func8 rfl (Nat.le_of_ble_eq_true rfl) fun C hC => ?_
 simp only [List.map, argEnv, Nat.reduceAdd]
 refine nK ?_
 refine za ?_
 refine ze ?_
 refine zb ?_
 refine nK ?_
 refine za ?_
 refine zee ?_
 refine zee ?_
 refine zcw ?_
 refine rpZ 10 rfl (op_call_pure (fun _ => s1) rfl (Opd.func _) (oS oC (oS (oT rfl) Opds.nil))) ?_
 refine zee ?_
 refine zee ?_
 refine zee ?_
 refine zem ?_
 refine rpZ 15 rfl (op_call_pure (fun _ => s2) rfl (Opd.func _) (oS oC (oS (oT rfl) Opds.nil))) ?_
 refine zcw ?_
 refine zdq ?_
 refine zo ?_
 refine zg ?_
 refine zb ?_
 refine nK ?_
 refine za ?_
 refine zeh ?_
 refine rpZ 19 rfl (op_build rfl rfl rfl (FillF.cons _ _ _ _ _ _ _ _ _ _ (by rfl) oC tC (by rfl) tR (FillF.cons _ _ _ _ _ _ _ _ _ _ (by rfl) (oT rfl) tC (by rfl) tR (FillF.cons _ _ _ _ _ _ _ _ _ _ (by rfl) oC tC (by rfl) tR (FillF.cons _ _ _ _ _ _ _ _ _ _ (by rfl) oC tC (by rfl) tR (FillF.nil _)))))) ?_
 refine rpZ 20 rfl (op_build rfl rfl rfl (FillF.cons _ _ _ _ _ _ _ _ _ _ (by rfl) oC tC (by rfl) tR (FillF.cons _ _ _ _ _ _ _ _ _ _ (by rfl) (oT rfl) tC (by rfl) tR (FillF.nil _)))) ?_
 refine zo ?_
 refine zg ?_
 refine zb ?_
 refine nK ?_
 refine nK ?_
 refine za ?_
 refine rpZ 21 rfl (op_buildZ (encNb zNb) rfl rfl tZk (FillF.cons _ _ _ _ _ _ _ _ _ _ (by rfl) oC tC (by rfl) tR (FillF.cons _ _ _ _ _ _ _ _ _ _ (by rfl) oC tC (by rfl) tR (FillF.cons _ _ _ _ _ _ _ _ _ _ (by rfl) oC tC (by rfl) tR (FillF.nil _))))) ?_
 refine zqqz ?_
 refine zf ?_
 refine zg ?_
 refine zb ?_
 refine nK ?_
 refine Next.weakS [1, 2] [] (by rfl) (keeps0 hC _) (G' := [(1, .ptr 0 2 0 0), (2, .ptr 1 15 0 0)]) (H' := [(0, some (.flat 2 [[If .u32 0, VA (dbI2 c1 c2)]])), (1, some (.flat 15 [encIf exI]))]) wG wR rfl ?_
 refine nK ?_
 refine za ?_
 refine zm ?_
 refine zm ?_
 refine zqqz ?_
 refine rpZ 28 rfl (op_call_pure (fun _ => hrt) rfl (Opd.func _) (oS (oT rfl) (oS oC (oS (oT rfl) Opds.nil)))) ?_
 refine zc ?_
 refine zi ?_
 refine zi ?_
 refine zd ?_
 refine zd ?_
 refine zb ?_
 refine nK ?_
 refine za ?_
 refine zc ?_
 refine zbe ?_
 refine zc ?_
 refine zl ?_
 refine zci ?_
 refine zdu ?_
 refine zbd ?_
 refine zb ?_
 refine nK ?_
 refine n_cond _ rfl (fun hb => ?_) (fun hb => ?_)
 ·exfalso; simp at hb
 refine nK ?_
 refine za ?_
 refine zeh ?_
 refine zbg ?_
 refine zqqz ?_
 refine zen ?_
 refine zo ?_
 refine zg ?_
 refine zb ?_
 refine nK ?_
 refine za ?_
 refine zeh ?_
 refine zeh ?_
 refine zqqz ?_
 refine zen ?_
 refine zo ?_
 refine zg ?_
 refine zb ?_
 refine nK ?_
 refine s_draw mixed ?_
 refine zc ?_
 refine rpZ 47 rfl (op_idx_fz 0 rfl (oT rfl) oC (by intro _; exact ⟨rfl, rfl⟩)) ?_
 refine zv ?_
 refine zm ?_
 refine rpZ 50 rfl (op_call_pure (fun _ => q1') rfl (Opd.func _) (oS (oT rfl) (oS (oT rfl) Opds.nil))) ?_
 refine zc ?_
 refine zl ?_
 refine rgZ 53 rfl rfl tG (op_idx_fz 1 rfl (oO rfl tO) oC (by intro _; exact ⟨rfl, rfl⟩)) ?_
 refine zdv ?_
 refine zby ?_
 refine rgZ 56 rfl rfl tG (op_call_pure (fun _ => q2') rfl (Opd.func _) (oS (oO rfl tO) (oS (oO rfl tO) Opds.nil))) ?_
 refine zy ?_
 refine zd ?_
 refine zq ?_
 refine nK ?_
 refine s_oB hC rfl rfl ?_
 rfl
open Go Go.RT Go.Proofs Go.Pl
set_option maxRecDepth 20000
set_option maxHeartbeats 4000000
theorem fineI_c (db : List Lsa) (l : List Ifs) (ho : ∀ x ∈ db, okA x) (hd : lenOk db.length) (hl : lenOk l.length) : Pure Tryz.prog 9 [VA db, VIf l] (Bf (decide (db.length ≤ 60) && decide (l.length ≤ 40) && decide (dbI db = 0))) := by
 have hc := db_c db ho
 have e1 : decide (db.length ≤ 60) = decide ((db.length : Int) ≤ 60) := decide_eq_decide.2 (by omega)
 have e2 : decide (l.length ≤ 40) = decide ((l.length : Int) ≤ 40) := decide_eq_decide.2 (by omega)
 rw [e1, e2]
 refine Meets.intro Tryz.func9 rfl (Nat.le_of_ble_eq_true rfl) fun C hC => ?_
 simp only [List.map, argEnv, Nat.reduceAdd]
 refine nK ?_
 refine za ?_
 refine ze ?_
 refine zb ?_
 refine nK ?_
 refine za ?_
 refine zc ?_
 refine zk ?_
 refine rpZ 7 rfl (op_leq rfl (oT rfl) oC) ?_
 refine zc ?_
 refine zl ?_
 refine zci ?_
 refine rgZ 11 rfl rfl tG (op_leq rfl (oO rfl tO) oC) ?_
 refine zy ?_
 refine zc ?_
 refine zl ?_
 refine rgZ 15 rfl rfl tG (op_call_pure (fun _ => hc) rfl (Opd.func _) (oS (oO rfl tO) Opds.nil)) ?_
 refine zbw ?_
 refine zy ?_
 refine zd ?_
 refine zb ?_
 refine nK ?_
 exact wO hC
theorem sameT_c (a : List IHop) (ha : lenOk a.length) : Pure Tryz.prog 5 [VIh a, VIh a] (Bf true) := by
 have := sameH_c a a ha ha
 simpa using this
theorem mergeH_len (a b : List IHop) : (mergeH a b).length ≤ a.length + b.length := by
 have := sortH_len (a ++ b)
 rw [List.length_append] at this
 exact this
theorem merges_law (a b c : List IHop) (ha : a.length ≤ 1048576) (hb0 : b.length ≤ 1048576) (hc : c.length ≤ 1048576) : Pure Tryz.prog 3 [VIh a, VIh b, VIh c] (Bf true) := by
 have l1 := mergeH_len a b
 have l2 := mergeH_len b c
 have l3 := mergeH_len (mergeH a b) c
 have l4 := mergeH_len a []
 have k1 := mergeI_c a b (by omega)
 have r1 := rmergeI_c a b (by omega) (by omega)
 have k2 := mergeI_c b a (by omega)
 have k3 := mergeI_c (mergeH a b) c (by omega)
 have k4 := mergeI_c b c (by omega)
 have k5 := mergeI_c a (mergeH b c) (by omega)
 have k6 := mergeI_c a a (by omega)
 have r2 := rmergeI_c a [] (by omega) (by simp)
 rw [mergeH_comm b a] at k2
 rw [← mergeH_assoc] at k5
 rw [mergeH_self] at k6
 have s1 := sameT_c (mergeH a b) (by unfold lenOk; omega)
 have s3 := sameT_c (mergeH (mergeH a b) c) (by unfold lenOk; omega)
 have s4 := sameT_c (mergeH a []) (by unfold lenOk; simp at l4; omega)
 have lv := lives_c
 clear l1 l2 l3 l4
 generalize mergeH (mergeH a b) c = m3 at *
 generalize mergeH a b = m1 at *
 generalize mergeH b c = m2 at *
 generalize mergeH a [] = m4 at *
 refine Meets.intro Tryz.func3 rfl (Nat.le_of_ble_eq_true rfl) fun C hC => ?_
 simp only [List.map, argEnv, Nat.reduceAdd]
 refine nK ?_
 refine za ?_
 refine ze ?_
 refine zb ?_
 refine nK ?_
 refine za ?_
 refine zc ?_
 refine zc ?_
 refine rpZ 9 rfl (op_call_pure (fun _ => k1) rfl (Opd.func _) (oS (oT rfl) (oS (oT rfl) Opds.nil))) ?_
 refine zc ?_
 refine zc ?_
 refine rpZ 12 rfl (op_call_pure (fun _ => r1) rfl (Opd.func _) (oS (oT rfl) (oS (oT rfl) Opds.nil))) ?_
 refine rpZ 13 rfl (op_call_pure (fun _ => s1) rfl (Opd.func _) (oS (oT rfl) (oS (oT rfl) Opds.nil))) ?_
 refine zbj ?_
 refine zb ?_
 refine nK ?_
 refine n_cond _ rfl (fun hb => ?_) (fun hb => ?_)
 ·exfalso; simp at hb
 refine nK ?_
 refine za ?_
 refine zc ?_
 refine zc ?_
 refine rpZ 17 rfl (op_call_pure (fun _ => k1) rfl (Opd.func _) (oS (oT rfl) (oS (oT rfl) Opds.nil))) ?_
 refine zc ?_
 refine zc ?_
 refine rpZ 20 rfl (op_call_pure (fun _ => k2) rfl (Opd.func _) (oS (oT rfl) (oS (oT rfl) Opds.nil))) ?_
 refine rpZ 21 rfl (op_call_pure (fun _ => s1) rfl (Opd.func _) (oS (oT rfl) (oS (oT rfl) Opds.nil))) ?_
 refine zc ?_
 refine zl ?_
 refine zl ?_
 refine rgZ 25 rfl rfl tG (op_call_pure (fun _ => k1) rfl (Opd.func _) (oS (oO rfl tO) (oS (oO rfl tO) Opds.nil))) ?_
 refine zl ?_
 refine rgZ 27 rfl rfl tG (op_call_pure (fun _ => k3) rfl (Opd.func _) (oS (oO rfl tO) (oS (oO rfl tO) Opds.nil))) ?_
 refine zl ?_
 refine zl ?_
 refine zl ?_
 refine rgZ 31 rfl rfl tG (op_call_pure (fun _ => k4) rfl (Opd.func _) (oS (oO rfl tO) (oS (oO rfl tO) Opds.nil))) ?_
 refine rgZ 32 rfl rfl tG (op_call_pure (fun _ => k5) rfl (Opd.func _) (oS (oO rfl tO) (oS (oO rfl tO) Opds.nil))) ?_
 refine rgZ 33 rfl rfl tG (op_call_pure (fun _ => s3) rfl (Opd.func _) (oS (oO rfl tO) (oS (oO rfl tO) Opds.nil))) ?_
 refine zy ?_
 refine zc ?_
 refine zl ?_
 refine zl ?_
 refine rgZ 38 rfl rfl tG (op_call_pure (fun _ => k6) rfl (Opd.func _) (oS (oO rfl tO) (oS (oO rfl tO) Opds.nil))) ?_
 refine zl ?_
 refine rgZ 40 rfl rfl tG (op_call_pure (fun _ => r2) rfl (Opd.func _) (oS (oO rfl tO) (oS (Opd.nil _ 3 oC) Opds.nil))) ?_
 refine rgZ 41 rfl rfl tG (op_call_pure (fun _ => s4) rfl (Opd.func _) (oS (oO rfl tO) (oS (oO rfl tO) Opds.nil))) ?_
 refine zy ?_
 refine zc ?_
 refine rgZ 44 rfl rfl tG (op_call_pure (fun _ => lv) rfl (Opd.func _) Opds.nil) ?_
 refine zy ?_
 refine zd ?_
 refine zb ?_
 refine nK ?_
 refine s_oB hC rfl rfl ?_
 rfl
open Go Go.RT Go.Proofs Go.Pl
set_option maxRecDepth 20000
set_option maxHeartbeats 4000000
theorem wHI42a {α : Prop} (h : α := by repeat (first | exact trivial | refine ⟨wS, ?_⟩ | refine ⟨ent_same rfl rfl (rfEq rfl tU) tL, ?_⟩ | refine ⟨ent_same rfl rfl (flEq rfl (by first | (simp; done) | (simp; omega) | (simp [encA, encLr, Pl.encIh, encIf, encP]; done) | simp [maxC, minC])) trivial, ?_⟩)) : α := h
/-- what Routes answers for a valid database: an error, or routes as the law wants them -/
theorem routes_any (db : List Lsa) (area router : Int) (l : List Ifs) (ho : ∀ x ∈ db, okA x) (h60 : db.length ≤ 60) (h0 : dbI db = 0) (hl : IfOk l) :
  (∃ e : Int, e ≠ 0 ∧ Pure Tryz.prog 10 [.agg [If .u32 area, VA db], If .u32 router, VIf l] (.tup [VLr [], If .i64 e])) ∨
  ∃ R : List LRt, Pure Tryz.prog 10 [.agg [If .u32 area, VA db], If .u32 router, VIf l] (.tup [VLr R, If .i64 0]) ∧ ascLr R ∧ R.length ≤ 100000 ∧
   ∀ r ∈ R, 0 < r.hs.length ∧ r.hs.length ≤ 50000000 ∧ ∀ x ∈ r.hs, ∃ j, ∃ hj : j < l.length, x.ifc = (j : Int) ∧ l[j].up = true ∧ l[j].ar = area := by
 have hk := dbOk h0
 have hll : ∀ x ∈ db, x.ls.length ≤ 64 ∧ x.att.length ≤ 64 := fun x hx => chkA_len (hk.chk x hx)
 have hb := build_c db (by omega) ho hll
 by_cases he : (buildF db).2 = 0
 ·rw [he] at hb
  have hsum := build_sum db
  have hn : lenOk (buildF db).1.rs.length := by unfold lenOk; omega
  obtain ⟨b1, b2, b3, _⟩ := both_ok hk he
  rcases idx_ge (fun x => decide (router = x)) (buildF db).1.rs 0 with ⟨h1, _⟩ | ⟨j, hj, h1, _⟩
  ·exact .inl ⟨6, by decide, routes_bad db area router l zVw 6 (by decide) (look_none db area router l _ hn (by unfold idxR; rw [h1]; decide) hb)⟩
  rw [Nat.zero_add] at h1
  obtain ⟨t, ht⟩ := run_exists (a := j) b1 (by omega)
  have hro := rt_ok hk ho h60 he ht (hl.own area)
  have hlk := look_ok db area router l _ j t hl.ll hn h1 (build_ok (by omega) ho) ht hb
  refine .inr ⟨_, routes_c db area router l _ hro hlk, routes_asc hro router area, ?_, fun r hr => ?_⟩
  ·exact routes_small (fun r => (stubs_ok hk ho r).1) hro.vw.rl hro.vw.nl router area
  obtain ⟨q1, q2, q3⟩ := routes_hs hro hr
  exact ⟨q1, q2, fun x hx => ah_up (q3 x hx)⟩
 exact .inl ⟨_, he, routes_bad db area router l zVw _ he (look_bad db area router l _ _ he hb)⟩
theorem uses_law (db : List Lsa) (area router : Int) (l : List Ifs) (ho : ∀ x ∈ db, okA x) (hdl : lenOk db.length) (hll : lenOk l.length) (hlb : ∀ s ∈ l, s.nb.length ≤ 1048576) : Pure Tryz.prog 4 [.agg [If .u32 area, VA db], If .u32 router, VIf l] (Bf true) := by
 have lv := lives_c
 have hf := fineI_c db l ho hdl hll
 by_cases hfine : (decide (db.length ≤ 60) && decide (l.length ≤ 40) && decide (dbI db = 0)) = true
 ·rw [hfine] at hf
  simp only [Bool.and_eq_true, decide_eq_true_eq] at hfine
  obtain ⟨⟨h60, h40⟩, h0⟩ := hfine
  rcases routes_any db area router l ho h60 h0 ⟨h40, hlb⟩ with ⟨e, he, hr⟩ | ⟨R, hr, hasc, hRl, hR⟩
  ·skip
   refine Meets.intro Tryz.func4 rfl (Nat.le_of_ble_eq_true rfl) fun C hC => ?_
   simp only [List.map, argEnv, Nat.reduceAdd]
   refine nK ?_
   refine za ?_
   refine zu ?_
   refine ze ?_
   refine zb ?_
   refine nK ?_
   refine za ?_
   refine zf ?_
   refine zh ?_
   refine zc ?_
   refine rpZ 15 rfl (op_call_pure (fun _ => hf) rfl (Opd.func _) (oS (oT rfl) (oS (oT rfl) Opds.nil))) ?_
   refine zbj ?_
   refine zb ?_
   refine nK ?_
   refine n_cond _ rfl (fun hb => ?_) (fun hb => ?_)
   ·exfalso; simp at hb
   refine nK ?_
   refine za ?_
   refine zm ?_
   refine zc ?_
   refine zc ?_
   refine rpZ 22 rfl (op_call_pure (fun _ => hr) rfl (Opd.func _) (oS (oT rfl) (oS (oT rfl) (oS (oT rfl) Opds.nil)))) ?_
   refine zc ?_
   refine zi ?_
   refine zi ?_
   refine zd ?_
   refine zd ?_
   refine zb ?_
   refine nK ?_
   refine za ?_
   refine zc ?_
   refine zbe ?_
   refine zb ?_
   refine nK ?_
   refine n_cond _ rfl (fun hb => ?_) (fun hb => ?_)
   ·refine nK ?_
    refine za ?_
    refine rpZ 27 rfl (op_call_pure (fun _ => lv) rfl (Opd.func _) Opds.nil) ?_
    refine zd ?_
    refine zb ?_
    refine nK ?_
    exact wO hC
   exfalso; simp at hb; exact he hb
  skip
  refine Meets.intro Tryz.func4 rfl (Nat.le_of_ble_eq_true rfl) fun C hC => ?_
  simp only [List.map, argEnv, Nat.reduceAdd]
  refine nK ?_
  refine za ?_
  refine zu ?_
  refine ze ?_
  refine zb ?_
  refine nK ?_
  refine za ?_
  refine zf ?_
  refine zh ?_
  refine zc ?_
  refine rpZ 15 rfl (op_call_pure (fun _ => hf) rfl (Opd.func _) (oS (oT rfl) (oS (oT rfl) Opds.nil))) ?_
  refine zbj ?_
  refine zb ?_
  refine nK ?_
  refine n_cond _ rfl (fun hb => ?_) (fun hb => ?_)
  ·exfalso; simp at hb
  refine nK ?_
  refine za ?_
  refine zm ?_
  refine zc ?_
  refine zc ?_
  refine rpZ 22 rfl (op_call_pure (fun _ => hr) rfl (Opd.func _) (oS (oT rfl) (oS (oT rfl) (oS (oT rfl) Opds.nil)))) ?_
  refine zc ?_
  refine zi ?_
  refine zi ?_
  refine zd ?_
  refine zd ?_
  refine zb ?_
  refine nK ?_
  refine za ?_
  refine zc ?_
  refine zbe ?_
  refine zb ?_
  refine nK ?_
  refine n_cond _ rfl (fun hb => ?_) (fun hb => ?_)
  ·exfalso; simp at hb
  refine nK ?_
  refine za ?_
  refine zc ?_
  refine zk ?_
  refine zx ?_
  refine zb ?_
  refine nK ?_
  refine n_loop (ι := Nat) (fun i => ([(2, .fz (VIf l)), (3, .ptr 0 2 0 0), (7, .fz (VLr R)), (29, IV .i64 R.length), (30, IV .i64 i)], [(0, some (.flat 2 [[If .u32 area, VA db]]))], 1)) (fun i => i ≤ R.length) (fun i => R.length - i) 0 (Nat.zero_le _) ?_ ?_
  ·refine Next.weakS [3] [] (by rfl) (wK hC) wG wHI42a rfl (rel_intro)
  intro i hi K hK
  refine nK ?_
  refine za ?_
  refine zn ?_
  refine zb ?_
  refine nK ?_
  refine n_cond _ rfl (fun hb => ?_) (fun hb => ?_)
  ·have hlt : i < R.length := by simp at hb; omega
   have hr1 := row_at' encLr R i hlt
   have hK1 := hK (i + 1) (by omega) (by omega)
   obtain ⟨hx0, hx1, hxs⟩ := hR R[i] (List.getElem_mem hlt)
   obtain ⟨q, hq⟩ : ∃ q : LRt, 0 < i → (R.map encLr)[i - 1]? = some (encLr q) ∧ ltPf q.pf R[i].pf := by
    by_cases h0i : 0 < i
    ·exact ⟨R[i - 1], fun _ => ⟨row_at' encLr R (i - 1) (by omega), List.pairwise_iff_getElem.1 hasc (i - 1) i (by omega) hlt (by omega)⟩⟩
    exact ⟨zLr, fun h => absurd h h0i⟩
   generalize R[i] = x at *
   clear hK
   have hless := lessI_c q.pf x.pf
   refine nK ?_
   refine za ?_
   refine zc ?_
   refine zd ?_
   refine zb ?_
   refine nK ?_
   refine s_draw mixed ?_
   refine zc ?_
   refine zc ?_
   refine zr ?_
   refine zbf ?_
   refine zt ?_
   refine zk ?_
   refine zba ?_
   refine zc ?_
   refine zl ?_
   refine zbo ?_
   refine zce ?_
   refine zl ?_
   refine zl ?_
   refine zcf ?_
   refine rgZ 47 rfl rfl tG (op_idx_fz (i - 1) rfl (oO rfl tO) (oO rfl tO) (by intro hg; have h0 : 0 < i := (by simp at hg; omega); exact ⟨by omega, (hq h0).1⟩)) ?_
   refine zbs ?_
   refine zef ?_
   refine zl ?_
   refine zl ?_
   refine zcu ?_
   refine zbs ?_
   refine zef ?_
   refine rgZ 55 rfl rfl tG (op_call_pure (fun _ => hless) rfl (Opd.func _) (oS (oO rfl tO) (oS (oO rfl tO) Opds.nil))) ?_
   refine zca ?_
   refine zco ?_
   refine zbd ?_
   refine zq ?_
   refine nK ?_
   refine n_cond _ rfl (fun hb => ?_) (fun hb => ?_)
   ·exfalso
    simp only [Bool.or_eq_true, Bool.and_eq_true, decide_eq_true_eq, Bool.not_eq_true', decide_eq_false_iff_not] at hb
    rcases hb with h | ⟨h1, h2⟩
    ·omega
    exact h2 (hq (by omega)).2
   clear hless hq
   refine nK ?_
   refine za ?_
   refine zc ?_
   refine zc ?_
   refine zr ?_
   refine zbf ?_
   refine zt ?_
   refine zk ?_
   refine zx ?_
   refine zb ?_
   refine nK ?_
   refine n_loop (ι := Nat) (fun k => ([(2, .fz (VIf l)), (3, .ptr 0 2 0 0), (7, .fz (VLr R)), (9, IV .i64 i), (29, IV .i64 R.length), (30, IV .i64 i), (64, IV .i64 x.hs.length), (65, IV .i64 k)], [(0, some (.flat 2 [[If .u32 area, VA db]]))], 1)) (fun k => k ≤ x.hs.length) (fun k => x.hs.length - k) 0 (Nat.zero_le _) ?_ ?_
   ·refine Next.weakS [3] [] (by rfl) (wK hC) wG wHI42a rfl (rel_intro)
   intro k hk K2 hK2
   refine nK ?_
   refine za ?_
   refine zn ?_
   refine zb ?_
   refine nK ?_
   refine n_cond _ rfl (fun hb => ?_) (fun hb => ?_)
   ·have hlt2 : k < x.hs.length := by simp at hb; omega
    have hr2 := row_at' encIh x.hs k hlt2
    have hK3 := hK2 (k + 1) (by omega) (by omega)
    obtain ⟨j, hj, e1, hup, har⟩ := hxs x.hs[k] (List.getElem_mem hlt2)
    have hr3 := row_at' encIf l j hj
    generalize x.hs[k] = h at *
    generalize l[j] = s at *
    clear hK2
    obtain ⟨ifc, ad, ro⟩ := h
    dsimp only at e1
    subst e1
    refine nK ?_
    refine za ?_
    refine zc ?_
    refine zd ?_
    refine zb ?_
    refine nK ?_
    refine za ?_
    refine zc ?_
    refine zc ?_
    refine zr ?_
    refine zbf ?_
    refine zt ?_
    refine zc ?_
    refine zr ?_
    refine zbf ?_
    refine zt ?_
    refine zd ?_
    refine zb ?_
    refine nK ?_
    refine s_draw mixed ?_
    refine zc ?_
    refine zbq ?_
    refine zc ?_
    refine zl ?_
    refine zl ?_
    refine zci ?_
    refine zdr ?_
    refine zbd ?_
    refine zc ?_
    refine zl ?_
    refine zl ?_
    refine rgZ 88 rfl rfl tG (op_idx_fz j rfl (oO rfl tO) (oO rfl tO) (by intro _; exact ⟨rfl, hr3⟩)) ?_
    refine zbs ?_
    refine zbt ?_
    refine zca ?_
    refine zbd ?_
    refine zc ?_
    refine zl ?_
    refine zl ?_
    refine rgZ 96 rfl rfl tG (op_idx_fz j rfl (oO rfl tO) (oO rfl tO) (by intro _; exact ⟨rfl, hr3⟩)) ?_
    refine zbs ?_
    refine zbs ?_
    refine zbt ?_
    refine zp ?_
    refine zs ?_
    refine zdm ?_
    refine zbd ?_
    refine zq ?_
    refine nK ?_
    refine n_cond _ rfl (fun hb => ?_) (fun hb => ?_)
    ·exfalso
     simp only [Bool.or_eq_true, decide_eq_true_eq, Bool.not_eq_true', hup, har] at hb
     rcases hb with ((h | h) | h) | h
     ·omega
     ·omega
     ·cases h
     exact h rfl
    refine nK ?_
    refine za ?_
    refine zj ?_
    refine zc ?_
    refine zb ?_
    refine nK ?_
    refine Next.weakS [3] [] (by rfl) (wK hC) wG wHI42a rfl (hK3)
   have hke : k = x.hs.length := by simp at hb; omega
   clear hK2
   refine nK ?_
   refine za ?_
   refine zj ?_
   refine zc ?_
   refine zb ?_
   refine nK ?_
   refine Next.weakS [3] [] (by rfl) (wK hC) wG wHI42a rfl (hK1)
  have hie : i = R.length := by simp at hb; omega
  refine nK ?_
  refine za ?_
  refine rpZ 106 rfl (op_call_pure (fun _ => lv) rfl (Opd.func _) Opds.nil) ?_
  refine zd ?_
  refine zb ?_
  refine nK ?_
  exact wO hC
 have hff : (decide (db.length ≤ 60) && decide (l.length ≤ 40) && decide (dbI db = 0)) = false := by simpa using hfine
 rw [hff] at hf
 refine Meets.intro Tryz.func4 rfl (Nat.le_of_ble_eq_true rfl) fun C hC => ?_
 simp only [List.map, argEnv, Nat.reduceAdd]
 refine nK ?_
 refine za ?_
 refine zu ?_
 refine ze ?_
 refine zb ?_
 refine nK ?_
 refine za ?_
 refine zf ?_
 refine zh ?_
 refine zc ?_
 refine rpZ 15 rfl (op_call_pure (fun _ => hf) rfl (Opd.func _) (oS (oT rfl) (oS (oT rfl) Opds.nil))) ?_
 refine zbj ?_
 refine zb ?_
 refine nK ?_
 refine n_cond _ rfl (fun hb => ?_) (fun hb => ?_)
 ·refine nK ?_
  refine za ?_
  refine rpZ 17 rfl (op_call_pure (fun _ => lv) rfl (Opd.func _) Opds.nil) ?_
  refine zd ?_
  refine zb ?_
  refine nK ?_
  exact wO hC
 exfalso; simp at hb
end Go.Proofs.YtoeckbdgemnngaaGreat
/- How the arguments of the rows read. -/
namespace Go.Proofs.YtoeckbdgemnngaaGreat
open Go Go.RT Go.Proofs Go.Pl
set_option linter.all false
variable {H : Type} {enc : TypeId × Value → H} {W : World} {ok : DataW H → Prop} {B : Nat}
theorem rdc_n : RdC ok enc Tryz.prog W 3 (fun fs => ∃ n, inr .i64 n ∧ fs = [If .i64 n]) := rdc_int (P := Tryz.prog) (t := 3) inferInstance
theorem rdc_u : RdC ok enc Tryz.prog W 27 (fun fs => ∃ n, inr .u32 n ∧ fs = [If .u32 n]) := rdc_int (P := Tryz.prog) (t := 27) inferInstance
theorem rdc_a : RdC ok enc Tryz.prog W 37 (fun fs => ∃ n, inr .u32 n ∧ fs = [If .u32 n]) := rdc_int (P := Tryz.prog) (t := 37) inferInstance
theorem rdc_b : RdC ok enc Tryz.prog W 4 (fun fs => ∃ b, fs = [Bf b]) := rdc_bool (P := Tryz.prog) (t := 4) inferInstance
theorem rdc_us (dn : DnOk H ok B) : RdC ok enc Tryz.prog W 59 (fun fs => ∃ l : List Int, (∀ x ∈ l, okU x) ∧ l.length ≤ B ∧ fs = [VU l]) :=
  (rdc_slice (P := Tryz.prog) (t := 59) (e := 27) dn inferInstance inferInstance (by decide) rdc_u).imp fun fs h => by
    obtain ⟨rows, hr, hl, rfl⟩ := h
    obtain ⟨l, rfl, ho⟩ := rows_of (enc := encU) (ok := okU) (fun fs h => h) hr
    exact ⟨l, ho, by simpa using hl, rfl⟩
theorem rdc_hdr (dn : DnOk H ok B) : RdC ok enc Tryz.prog W 57 (fun fs => ∃ e : Hdr, okH e ∧ fs = encH e) :=
  (rdc_struct (P := Tryz.prog) (t := 57) dn Tryz.underlying57 (by kernel_rfl) (.cons _ _ _ _ rdc_n (.cons _ _ _ _ rdc_u (.cons _ _ _ _ rdc_n (.cons _ _ _ _ rdc_u (.cons _ _ _ _ rdc_n (.cons _ _ _ _ rdc_n (.cons _ _ _ _ rdc_n .nil)))))))).imp fun fs h => by
    obtain ⟨_, _, rfl, ⟨a, ha, rfl⟩, _, _, rfl, ⟨b, hb, rfl⟩, _, _, rfl, ⟨c, hc, rfl⟩, _, _, rfl, ⟨d, hd, rfl⟩, _, _, rfl, ⟨e, he, rfl⟩, _, _, rfl, ⟨f, hf, rfl⟩, _, _, rfl, ⟨g, hg, rfl⟩, rfl⟩ := h
    exact ⟨⟨a, b, c, d, e, f, g⟩, ⟨ha, hb, hc, hd, he, hf, hg⟩, rfl⟩
theorem rdc_lnk (dn : DnOk H ok B) : RdC ok enc Tryz.prog W 64 (fun fs => ∃ e : Lnk, okK e ∧ fs = encL e) :=
  (rdc_struct (P := Tryz.prog) (t := 64) dn Tryz.underlying64 (by kernel_rfl) (.cons _ _ _ _ rdc_n (.cons _ _ _ _ rdc_u (.cons _ _ _ _ rdc_u (.cons _ _ _ _ rdc_n .nil))))).imp fun fs h => by
    obtain ⟨_, _, rfl, ⟨a, ha, rfl⟩, _, _, rfl, ⟨b, hb, rfl⟩, _, _, rfl, ⟨c, hc, rfl⟩, _, _, rfl, ⟨d, hd, rfl⟩, rfl⟩ := h
    exact ⟨⟨a, b, c, d⟩, ⟨ha, hb, hc, hd⟩, rfl⟩
theorem rdc_lnks (dn : DnOk H ok B) : RdC ok enc Tryz.prog W 58 (fun fs => ∃ l : List Lnk, (∀ x ∈ l, okK x) ∧ l.length ≤ B ∧ fs = [VL l]) :=
  (rdc_slice (P := Tryz.prog) (t := 58) (e := 64) dn inferInstance inferInstance (by decide) (rdc_lnk dn)).imp fun fs h => by
    obtain ⟨rows, hr, hl, rfl⟩ := h
    obtain ⟨l, rfl, ho⟩ := rows_of (enc := encL) (ok := okK) (fun fs h => h) hr
    exact ⟨l, ho, by simpa using hl, rfl⟩
theorem rdc_lsa (dn : DnOk H ok B) : RdC ok enc Tryz.prog W 61 (fun fs => ∃ e : Lsa, okA e ∧ fs = encA e) :=
  (rdc_struct (P := Tryz.prog) (t := 61) dn Tryz.underlying61 (by kernel_rfl) (.cons _ _ _ _ (rdc_hdr dn) (.cons _ _ _ _ rdc_b (.cons _ _ _ _ rdc_b (.cons _ _ _ _ (rdc_lnks dn) (.cons _ _ _ _ (rdc_us dn) (.cons _ _ _ _ rdc_n (.cons _ _ _ _ rdc_b (.cons _ _ _ _ rdc_a (.cons _ _ _ _ rdc_n .nil)))))))))).imp fun fs h => by
    obtain ⟨_, _, rfl, ⟨h, hh, rfl⟩, _, _, rfl, ⟨b1, rfl⟩, _, _, rfl, ⟨b2, rfl⟩, _, _, rfl, ⟨l, hl, _, rfl⟩, _, _, rfl, ⟨u, hu, _, rfl⟩, _, _, rfl, ⟨c, hc, rfl⟩, _, _, rfl, ⟨s, rfl⟩, _, _, rfl, ⟨f, hf, rfl⟩, _, _, rfl, ⟨t, ht, rfl⟩, rfl⟩ := h
    exact ⟨⟨h, b1, b2, l, u, c, s, f, t⟩, ⟨hh, hl, hu, hc, hf, ht⟩, rfl⟩
theorem rdc_lsas (dn : DnOk H ok B) : RdC ok enc Tryz.prog W 28 (fun fs => ∃ l : List Lsa, (∀ x ∈ l, okA x) ∧ l.length ≤ B ∧ fs = [VA l]) :=
  (rdc_slice (P := Tryz.prog) (t := 28) (e := 61) dn inferInstance inferInstance (by decide) (rdc_lsa dn)).imp fun fs h => by
    obtain ⟨rows, hr, hl, rfl⟩ := h
    obtain ⟨l, rfl, ho⟩ := rows_of (enc := encA) (ok := okA) (fun fs h => h) hr
    exact ⟨l, ho, by simpa using hl, rfl⟩
theorem rdc_pfx (dn : DnOk H ok B) : RdC ok enc Tryz.prog W 39 (fun fs => ∃ p : Pfx, p.ok ∧ fs = encP p) :=
  (rdc_struct (P := Tryz.prog) (t := 39) dn Tryz.underlying39 (by kernel_rfl) (.cons _ _ _ _ rdc_a (.cons _ _ _ _ rdc_n .nil))).imp fun fs h => by
    obtain ⟨_, _, rfl, ⟨a, ha, rfl⟩, _, _, rfl, ⟨b, hb, rfl⟩, rfl⟩ := h
    have ha' : 0 ≤ a ∧ a < 4294967296 := by simp only [inr] at ha; omega
    refine ⟨⟨a.toNat, b⟩, ⟨by show a.toNat < 2 ^ 32; omega, hb⟩, ?_⟩
    simp only [encP]
    rw [Int.toNat_of_nonneg ha'.1]; rfl
theorem rdc_hop (dn : DnOk H ok B) : RdC ok enc Tryz.prog W 44 (fun fs => ∃ e : IHop, True ∧ fs = encIh e) :=
  (rdc_struct (P := Tryz.prog) (t := 44) dn Tryz.underlying44 (by kernel_rfl) (.cons _ _ _ _ rdc_n (.cons _ _ _ _ rdc_a (.cons _ _ _ _ rdc_u .nil)))).imp fun fs h => by
    obtain ⟨_, _, rfl, ⟨a, ha, rfl⟩, _, _, rfl, ⟨b, hb, rfl⟩, _, _, rfl, ⟨c, hc, rfl⟩, rfl⟩ := h
    exact ⟨⟨a, b, c⟩, trivial, rfl⟩
theorem rdc_hopsI (dn : DnOk H ok B) : RdC ok enc Tryz.prog W 22 (fun fs => ∃ l : List IHop, l.length ≤ B ∧ fs = [VIh l]) :=
  (rdc_slice (P := Tryz.prog) (t := 22) (e := 44) dn inferInstance inferInstance (by decide) (rdc_hop dn)).imp fun fs h => by
    obtain ⟨rows, hr, hl, rfl⟩ := h
    obtain ⟨l, rfl, ho⟩ := rows_of (enc := encIh) (ok := fun _ => True) (fun fs h => h) hr
    exact ⟨l, by simpa using hl, rfl⟩
theorem rdc_area (dn : DnOk H ok B) : RdC ok enc Tryz.prog W 30 (fun fs => ∃ (n : Int) (l : List Lsa), (∀ x ∈ l, okA x) ∧ l.length ≤ B ∧ fs = [If .u32 n, VA l]) :=
  (rdc_struct (P := Tryz.prog) (t := 30) dn Tryz.underlying30 (by kernel_rfl) (.cons _ _ _ _ rdc_u (.cons _ _ _ _ (rdc_lsas dn) .nil))).imp fun fs h => by
    obtain ⟨_, _, rfl, ⟨a, ha, rfl⟩, _, _, rfl, ⟨l, hl, hb, rfl⟩, rfl⟩ := h
    exact ⟨a, l, hl, hb, rfl⟩
theorem rdc_hdrs (dn : DnOk H ok B) : RdC ok enc Tryz.prog W 65 (fun fs => ∃ l : List Hdr, fs = [VHd l]) :=
  (rdc_slice (P := Tryz.prog) (t := 65) (e := 57) dn inferInstance inferInstance (by decide) (rdc_hdr dn)).imp fun fs h => by
    obtain ⟨rows, hr, hl, rfl⟩ := h
    obtain ⟨l, rfl, ho⟩ := rows_of (enc := encH) (ok := okH) (fun fs h => h) hr
    exact ⟨l, rfl⟩
theorem rdc_nbr (dn : DnOk H ok B) : RdC ok enc Tryz.prog W 67 (fun fs => ∃ e : Nbr, True ∧ fs = encNb e) :=
  (rdc_struct (P := Tryz.prog) (t := 67) dn Tryz.underlying67 (by kernel_rfl) (.cons _ _ _ _ rdc_u (.cons _ _ _ _ rdc_a (.cons _ _ _ _ rdc_n (.cons _ _ _ _ rdc_u (.cons _ _ _ _ rdc_u (.cons _ _ _ _ rdc_n (.cons _ _ _ _ rdc_n (.cons _ _ _ _ rdc_b (.cons _ _ _ _ rdc_n (.cons _ _ _ _ (rdc_hdrs dn) (.cons _ _ _ _ (rdc_hdrs dn) (.cons _ _ _ _ rdc_b (.cons _ _ _ _ (rdc_hdrs dn) (.cons _ _ _ _ (rdc_hdrs dn) (.cons _ _ _ _ rdc_n .nil)))))))))))))))).imp fun fs h => by
    obtain ⟨_, _, rfl, ⟨x0, _, rfl⟩, _, _, rfl, ⟨x1, _, rfl⟩, _, _, rfl, ⟨x2, _, rfl⟩, _, _, rfl, ⟨x3, _, rfl⟩, _, _, rfl, ⟨x4, _, rfl⟩, _, _, rfl, ⟨x5, _, rfl⟩, _, _, rfl, ⟨x6, _, rfl⟩, _, _, rfl, ⟨x7, rfl⟩, _, _, rfl, ⟨x8, _, rfl⟩, _, _, rfl, ⟨x9, rfl⟩, _, _, rfl, ⟨x10, rfl⟩, _, _, rfl, ⟨x11, rfl⟩, _, _, rfl, ⟨x12, rfl⟩, _, _, rfl, ⟨x13, rfl⟩, _, _, rfl, ⟨x14, _, rfl⟩, rfl⟩ := h
    exact ⟨⟨x0, x1, x2, x3, x4, x5, x6, x7, x8, x9, x10, x11, x12, x13, x14⟩, trivial, rfl⟩
theorem rdc_nbrs (dn : DnOk H ok B) : RdC ok enc Tryz.prog W 47 (fun fs => ∃ l : List Nbr, l.length ≤ B ∧ fs = [VNb l]) :=
  (rdc_slice (P := Tryz.prog) (t := 47) (e := 67) dn inferInstance inferInstance (by decide) (rdc_nbr dn)).imp fun fs h => by
    obtain ⟨rows, hr, hl, rfl⟩ := h
    obtain ⟨l, rfl, ho⟩ := rows_of (enc := encNb) (ok := fun _ => True) (fun fs h => h) hr
    exact ⟨l, by simpa using hl, rfl⟩
theorem rdc_iface (dn : DnOk H ok B) : RdC ok enc Tryz.prog W 46 (fun fs => ∃ (k : Int) (p : Pfx) (a r c y e d : Int), fs = [If .i64 k, If .u32 p.addr, If .i64 p.len, If .u32 a, If .u32 r, If .i64 c, If .i64 y, If .i64 e, If .i64 d]) :=
  (rdc_struct (P := Tryz.prog) (t := 46) dn Tryz.underlying46 (by kernel_rfl) (.cons _ _ _ _ rdc_n (.cons _ _ _ _ (rdc_pfx dn) (.cons _ _ _ _ rdc_a (.cons _ _ _ _ rdc_u (.cons _ _ _ _ rdc_n (.cons _ _ _ _ rdc_n (.cons _ _ _ _ rdc_n (.cons _ _ _ _ rdc_n .nil))))))))).imp fun fs h => by
    obtain ⟨_, _, rfl, ⟨x0, _, rfl⟩, _, _, rfl, ⟨x1, _, rfl⟩, _, _, rfl, ⟨x2, _, rfl⟩, _, _, rfl, ⟨x3, _, rfl⟩, _, _, rfl, ⟨x4, _, rfl⟩, _, _, rfl, ⟨x5, _, rfl⟩, _, _, rfl, ⟨x6, _, rfl⟩, _, _, rfl, ⟨x7, _, rfl⟩, rfl⟩ := h
    exact ⟨x0, x1, x2, x3, x4, x5, x6, x7, rfl⟩
theorem rdc_if (dn : DnOk H ok B) : RdC ok enc Tryz.prog W 49 (fun fs => ∃ s : Ifs, s.nb.length ≤ B ∧ fs = encIf s) :=
  (rdc_struct (P := Tryz.prog) (t := 49) dn Tryz.underlying49 (by kernel_rfl) (.cons _ _ _ _ (rdc_iface dn) (.cons _ _ _ _ rdc_b (.cons _ _ _ _ rdc_u (.cons _ _ _ _ rdc_u (.cons _ _ _ _ rdc_n (.cons _ _ _ _ rdc_n (.cons _ _ _ _ (rdc_nbrs dn) .nil)))))))).imp fun fs h => by
    obtain ⟨_, _, rfl, ⟨k, p, a, r, c, y, e, d, rfl⟩, _, _, rfl, ⟨x1, rfl⟩, _, _, rfl, ⟨x2, _, rfl⟩, _, _, rfl, ⟨x3, _, rfl⟩, _, _, rfl, ⟨x4, _, rfl⟩, _, _, rfl, ⟨x5, _, rfl⟩, _, _, rfl, ⟨x6, hm, rfl⟩, rfl⟩ := h
    exact ⟨⟨k, p, a, r, c, y, e, d, x1, x2, x3, x4, x5, x6⟩, hm, rfl⟩
theorem rdc_ifs (dn : DnOk H ok B) : RdC ok enc Tryz.prog W 31 (fun fs => ∃ l : List Ifs, (∀ s ∈ l, s.nb.length ≤ B) ∧ l.length ≤ B ∧ fs = [VIf l]) :=
  (rdc_slice (P := Tryz.prog) (t := 31) (e := 49) dn inferInstance inferInstance (by decide) (rdc_if dn)).imp fun fs h => by
    obtain ⟨rows, hr, hl, rfl⟩ := h
    obtain ⟨l, rfl, ho⟩ := rows_of (enc := encIf) (ok := fun s => s.nb.length ≤ B) (fun fs h => h) hr
    exact ⟨l, ho, by simpa using hl, rfl⟩
end Go.Proofs.YtoeckbdgemnngaaGreat
