/- A part of the proof: V14, ST1, ST2, ST5, ST6, RT33, RT34, SO1, SO2, SO3, SO4, SO5. -/
import Derived.Test.YtdbdajokdipmlaaZD
set_option linter.all false
namespace Go.Proofs.Ytdbdajokdipmlaa
open Go Go.RT Go.Proofs Go.Pl
set_option linter.all false
set_option maxRecDepth 20000
theorem without_c (g : Gr) (hn : g.es.length ≤ 2000000) (gf : Nat) [FnB Try.prog gf] (caps : List FV) (p : Edg → Bool) (hp : ∀ x, Pure Try.prog gf ([.agg (encE x)] ++ caps) (Bf (p x))) : Pure Try.prog 18 [.agg (encG g), .clo gf caps] (.agg (encG ⟨g.r, g.n, keepL p g.es⟩)) := by
  have hcl := clone_c g.es hn
  have hdl := deleteF_c g.es hn gf caps p hp
  refine Meets.intro Try.func18 rfl (Nat.le_of_ble_eq_true rfl) fun C hC => ?_
  simp only [List.map, argEnv, Nat.reduceAdd]
  refine nK ?_
  refine s_reg rfl ?_
  first | refine Run.eff (dd := some 2) rfl rfl (op_box_flat rfl (Opd.tmp _ _ rfl) tC rfl) ?_ | refine Run.eff (dd := some 2) rfl rfl (op_box_refs rfl (Opd.tmp _ _ rfl) tP rfl) ?_
  refine Run.eff (dd := some 4) rfl rfl (op_alloc rfl rfl rfl rfl) ?_
  refine Run.nil (FinR.mk ?_)
  refine nK ?_
  refine s_reg rfl ?_
  first | refine Run.pure (dd := some 5) rfl rfl (op_fld_ptr (by decide) rfl (Opd.tmp _ _ rfl)) ?_ | refine Run.pure (dd := some 5) rfl rfl (op_fld_fz (by decide) rfl (Opd.tmp _ _ rfl) tR) ?_
  first | refine Run.load (dd := some 6) rfl rfl (op_load1_flat rfl (Opd.tmp _ _ rfl) tH rfl) ?_ | refine Run.pure (dd := some 6) rfl rfl (op_load1_fz rfl (Opd.tmp _ _ rfl) rfl) ?_ | refine Run.load (dd := some 6) rfl rfl (op_load1_refs rfl (Opd.tmp _ _ rfl) tH rfl) ?_
  refine Run.eff (dd := some 7) rfl rfl (op_call_fresh (fun _ => hcl) rfl (Opd.func _) (Opds.cons _ _ _ _ (Opd.tmp _ _ rfl) Opds.nil)) ?_
  first | refine Run.pure (dd := some 8) rfl rfl (op_move rfl (Opd.tmp _ _ rfl)) ?_ | refine Run.pure (dd := some 8) rfl rfl (op_junk (.inl rfl)) ?_
  refine Run.eff (dd := some 9) rfl rfl (op_call (n := 1) (n' := 1) [2] (fun _ => hdl) rfl (Opd.func _) (Opds.cons _ _ _ _ (Opd.tmp _ _ rfl) (Opds.cons _ _ _ _ (Opd.tmp _ _ rfl) Opds.nil)) rfl rfl (Lent.of rfl rfl (by repeat (first | exact trivial | refine ⟨⟨rfl, rfl, rfl, tL⟩, ?_⟩)) rfl) rfl rfl rfl rfl rfl) ?_
  first | refine Run.pure (dd := some 10) rfl rfl (op_fld_ptr (by decide) rfl (Opd.tmp _ _ rfl)) ?_ | refine Run.pure (dd := some 10) rfl rfl (op_fld_fz (by decide) rfl (Opd.tmp _ _ rfl) tR) ?_
  first | refine Run.eff (dd := none) rfl rfl (op_store_flat rfl (Opd.tmp _ _ rfl) (Opd.tmp _ _ rfl) tC rfl rfl (by first | rfl | assumption) tS) ?_ | refine Run.eff (dd := none) rfl rfl (op_store_refs rfl (Opd.tmp _ _ rfl) (Opd.tmp _ _ rfl) tP rfl rfl rfl tS) ?_
  refine Run.nil (FinR.mk ?_)
  refine nK ?_
  refine s_reg rfl ?_
  first | refine Run.load (dd := some 11) rfl rfl (op_loadw_flat rfl (Opd.tmp _ _ rfl) tH rfl) ?_ | refine Run.pure (dd := some 11) rfl rfl (op_loadw_fz rfl (Opd.tmp _ _ rfl) rfl) ?_ | refine Run.load (dd := some 11) rfl rfl (op_loadn_flat rfl (Opd.tmp _ _ rfl) tH tR tR) ?_ | refine Run.pure (dd := some 11) rfl rfl (op_loadn_fz rfl (Opd.tmp _ _ rfl) tR) ?_ | refine Run.load (dd := some 11) rfl rfl (op_loadn_refs rfl (Opd.tmp _ _ rfl) tH tR tR) ?_
  first | refine Run.eff (dd := none) rfl rfl (op_store_flat rfl (Opd.tmp _ _ rfl) (Opd.tmp _ _ rfl) tC rfl rfl (by first | rfl | assumption) tS) ?_ | refine Run.eff (dd := none) rfl rfl (op_store_refs rfl (Opd.tmp _ _ rfl) (Opd.tmp _ _ rfl) tP rfl rfl rfl tS) ?_
  refine Run.nil (FinR.mk ?_)
  refine nK ?_
  (first | exact s_o1 hC rfl tV | exact s_o2 hC rfl tV tV | exact s_o3 hC rfl tV tV tV | exact s_out0 hC rfl | exact s_outO hC rfl rfl rfl)
abbrev pW (n : Int) (e : Edg) : Bool := decide (e.f = n) || decide (e.t = n)
abbrev pC (a b : Int) (e : Edg) : Bool := decide (e.f = a) && decide (e.t = b) || decide (e.f = b) && decide (e.t = a)
theorem withoutP_c (n : Int) (e : Edg) : Pure Try.prog 19 [.agg (encE e), .cellp [If .i64 n]] (Bf (pW n e)) := by
  refine Meets.intro Try.func19 rfl (Nat.le_of_ble_eq_true rfl) fun C hC => ?_
  simp only [List.map, argEnv, Nat.reduceAdd]
  refine nK ?_
  refine s_reg rfl ?_
  first | refine Run.eff (dd := some 2) rfl rfl (op_box_flat rfl (Opd.tmp _ _ rfl) tC rfl) ?_ | refine Run.eff (dd := some 2) rfl rfl (op_box_refs rfl (Opd.tmp _ _ rfl) tP rfl) ?_
  first | refine Run.pure (dd := some 3) rfl rfl (op_assign rfl (Opd.const _)) ?_ | refine Run.pure (dd := some 3) rfl rfl (op_junk (.inr rfl)) ?_
  refine Run.nil (FinR.mk ?_)
  refine nK ?_
  refine s_reg rfl ?_
  first | refine Run.pure (dd := some 4) rfl rfl (op_fld_ptr (by decide) rfl (Opd.tmp _ _ rfl)) ?_ | refine Run.pure (dd := some 4) rfl rfl (op_fld_fz (by decide) rfl (Opd.tmp _ _ rfl) tR) ?_
  first | refine Run.load (dd := some 5) rfl rfl (op_load1_flat rfl (Opd.tmp _ _ rfl) tH rfl) ?_ | refine Run.pure (dd := some 5) rfl rfl (op_load1_fz rfl (Opd.tmp _ _ rfl) rfl) ?_ | refine Run.load (dd := some 5) rfl rfl (op_load1_refs rfl (Opd.tmp _ _ rfl) tH rfl) ?_
  first | refine Run.load (dd := some 6) rfl rfl (op_load1_flat rfl (Opd.tmp _ _ rfl) tH rfl) ?_ | refine Run.pure (dd := some 6) rfl rfl (op_load1_fz rfl (Opd.tmp _ _ rfl) rfl) ?_ | refine Run.load (dd := some 6) rfl rfl (op_load1_refs rfl (Opd.tmp _ _ rfl) tH rfl) ?_
  refine Run.pure (dd := some 7) rfl rfl (op_eql rfl (Opd.tmp _ _ rfl) (Opd.tmp _ _ rfl)) ?_
  first | refine Run.pure (dd := some 8) rfl rfl (op_move rfl (Opd.tmp _ _ rfl)) ?_ | refine Run.pure (dd := some 8) rfl rfl (op_junk (.inl rfl)) ?_
  first | refine Run.pureG (dd := some 9) rfl rfl rfl tG (op_fld_ptr (by decide) rfl (Opd.tmp _ _ rfl)) ?_ | refine Run.pureG (dd := some 9) rfl rfl rfl tG (op_fld_fz (by decide) rfl (Opd.tmp _ _ rfl) tR) ?_
  first | refine Run.loadG (dd := some 10) rfl rfl rfl tG (op_load1_flat rfl (Opd.topt _ _ _ rfl tO) tH rfl) ?_ | refine Run.pureG (dd := some 10) rfl rfl rfl tG (op_load1_fz rfl (Opd.topt _ _ _ rfl tO) rfl) ?_ | refine Run.loadG (dd := some 10) rfl rfl rfl tG (op_load1_refs rfl (Opd.topt _ _ _ rfl tO) tH rfl) ?_
  first | refine Run.loadG (dd := some 11) rfl rfl rfl tG (op_load1_flat rfl (Opd.tmp _ _ rfl) tH rfl) ?_ | refine Run.pureG (dd := some 11) rfl rfl rfl tG (op_load1_fz rfl (Opd.tmp _ _ rfl) rfl) ?_ | refine Run.loadG (dd := some 11) rfl rfl rfl tG (op_load1_refs rfl (Opd.tmp _ _ rfl) tH rfl) ?_
  refine Run.pureG (dd := some 12) rfl rfl rfl tG (op_eql rfl (Opd.topt _ _ _ rfl tO) (Opd.topt _ _ _ rfl tO)) ?_
  refine Run.pure (dd := some 13) rfl rfl (op_pick_or rfl (Opd.tmp _ _ rfl) (Opd.topt _ _ _ rfl tO)) ?_
  first | refine Run.pure (dd := some 3) rfl rfl (op_assign rfl (Opd.tmp _ _ rfl)) ?_ | refine Run.pure (dd := some 3) rfl rfl (op_junk (.inr rfl)) ?_
  refine Run.nil (FinR.mk ?_)
  refine nK ?_
  (first | exact s_o1 hC rfl tV | exact s_o2 hC rfl tV tV | exact s_o3 hC rfl tV tV tV | exact s_out0 hC rfl | exact s_outO hC rfl rfl rfl)
theorem cutP_c (a b : Int) (e : Edg) : Pure Try.prog 20 [.agg (encE e), .cellp [If .i64 a], .cellp [If .i64 b]] (Bf (pC a b e)) := by
  refine Meets.intro Try.func20 rfl (Nat.le_of_ble_eq_true rfl) fun C hC => ?_
  simp only [List.map, argEnv, Nat.reduceAdd]
  refine nK ?_
  refine s_reg rfl ?_
  first | refine Run.eff (dd := some 3) rfl rfl (op_box_flat rfl (Opd.tmp _ _ rfl) tC rfl) ?_ | refine Run.eff (dd := some 3) rfl rfl (op_box_refs rfl (Opd.tmp _ _ rfl) tP rfl) ?_
  first | refine Run.pure (dd := some 4) rfl rfl (op_assign rfl (Opd.const _)) ?_ | refine Run.pure (dd := some 4) rfl rfl (op_junk (.inr rfl)) ?_
  refine Run.nil (FinR.mk ?_)
  refine nK ?_
  refine s_reg rfl ?_
  first | refine Run.pure (dd := some 5) rfl rfl (op_fld_ptr (by decide) rfl (Opd.tmp _ _ rfl)) ?_ | refine Run.pure (dd := some 5) rfl rfl (op_fld_fz (by decide) rfl (Opd.tmp _ _ rfl) tR) ?_
  first | refine Run.load (dd := some 6) rfl rfl (op_load1_flat rfl (Opd.tmp _ _ rfl) tH rfl) ?_ | refine Run.pure (dd := some 6) rfl rfl (op_load1_fz rfl (Opd.tmp _ _ rfl) rfl) ?_ | refine Run.load (dd := some 6) rfl rfl (op_load1_refs rfl (Opd.tmp _ _ rfl) tH rfl) ?_
  first | refine Run.load (dd := some 7) rfl rfl (op_load1_flat rfl (Opd.tmp _ _ rfl) tH rfl) ?_ | refine Run.pure (dd := some 7) rfl rfl (op_load1_fz rfl (Opd.tmp _ _ rfl) rfl) ?_ | refine Run.load (dd := some 7) rfl rfl (op_load1_refs rfl (Opd.tmp _ _ rfl) tH rfl) ?_
  refine Run.pure (dd := some 8) rfl rfl (op_eql rfl (Opd.tmp _ _ rfl) (Opd.tmp _ _ rfl)) ?_
  first | refine Run.pure (dd := some 9) rfl rfl (op_move rfl (Opd.tmp _ _ rfl)) ?_ | refine Run.pure (dd := some 9) rfl rfl (op_junk (.inl rfl)) ?_
  first | refine Run.pureG (dd := some 10) rfl rfl rfl tG (op_fld_ptr (by decide) rfl (Opd.tmp _ _ rfl)) ?_ | refine Run.pureG (dd := some 10) rfl rfl rfl tG (op_fld_fz (by decide) rfl (Opd.tmp _ _ rfl) tR) ?_
  first | refine Run.loadG (dd := some 11) rfl rfl rfl tG (op_load1_flat rfl (Opd.topt _ _ _ rfl tO) tH rfl) ?_ | refine Run.pureG (dd := some 11) rfl rfl rfl tG (op_load1_fz rfl (Opd.topt _ _ _ rfl tO) rfl) ?_ | refine Run.loadG (dd := some 11) rfl rfl rfl tG (op_load1_refs rfl (Opd.topt _ _ _ rfl tO) tH rfl) ?_
  first | refine Run.loadG (dd := some 12) rfl rfl rfl tG (op_load1_flat rfl (Opd.tmp _ _ rfl) tH rfl) ?_ | refine Run.pureG (dd := some 12) rfl rfl rfl tG (op_load1_fz rfl (Opd.tmp _ _ rfl) rfl) ?_ | refine Run.loadG (dd := some 12) rfl rfl rfl tG (op_load1_refs rfl (Opd.tmp _ _ rfl) tH rfl) ?_
  refine Run.pureG (dd := some 13) rfl rfl rfl tG (op_eql rfl (Opd.topt _ _ _ rfl tO) (Opd.topt _ _ _ rfl tO)) ?_
  refine Run.pure (dd := some 14) rfl rfl (op_pick_and rfl (Opd.tmp _ _ rfl) (Opd.topt _ _ _ rfl tO)) ?_
  first | refine Run.pure (dd := some 15) rfl rfl (op_move rfl (Opd.tmp _ _ rfl)) ?_ | refine Run.pure (dd := some 15) rfl rfl (op_junk (.inl rfl)) ?_
  first | refine Run.pureG (dd := some 16) rfl rfl rfl tG (op_fld_ptr (by decide) rfl (Opd.tmp _ _ rfl)) ?_ | refine Run.pureG (dd := some 16) rfl rfl rfl tG (op_fld_fz (by decide) rfl (Opd.tmp _ _ rfl) tR) ?_
  first | refine Run.loadG (dd := some 17) rfl rfl rfl tG (op_load1_flat rfl (Opd.topt _ _ _ rfl tO) tH rfl) ?_ | refine Run.pureG (dd := some 17) rfl rfl rfl tG (op_load1_fz rfl (Opd.topt _ _ _ rfl tO) rfl) ?_ | refine Run.loadG (dd := some 17) rfl rfl rfl tG (op_load1_refs rfl (Opd.topt _ _ _ rfl tO) tH rfl) ?_
  first | refine Run.loadG (dd := some 18) rfl rfl rfl tG (op_load1_flat rfl (Opd.tmp _ _ rfl) tH rfl) ?_ | refine Run.pureG (dd := some 18) rfl rfl rfl tG (op_load1_fz rfl (Opd.tmp _ _ rfl) rfl) ?_ | refine Run.loadG (dd := some 18) rfl rfl rfl tG (op_load1_refs rfl (Opd.tmp _ _ rfl) tH rfl) ?_
  refine Run.pureG (dd := some 19) rfl rfl rfl tG (op_eql rfl (Opd.topt _ _ _ rfl tO) (Opd.topt _ _ _ rfl tO)) ?_
  first | refine Run.pureG (dd := some 20) rfl rfl rfl tG (op_move rfl (Opd.topt _ _ _ rfl tO)) ?_ | refine Run.pureG (dd := some 20) rfl rfl rfl tG (op_junk (.inl rfl)) ?_
  first | refine Run.pureG (dd := some 21) rfl rfl rfl tG (op_fld_ptr (by decide) rfl (Opd.tmp _ _ rfl)) ?_ | refine Run.pureG (dd := some 21) rfl rfl rfl tG (op_fld_fz (by decide) rfl (Opd.tmp _ _ rfl) tR) ?_
  first | refine Run.loadG (dd := some 22) rfl rfl rfl tG (op_load1_flat rfl (Opd.topt _ _ _ rfl tO) tH rfl) ?_ | refine Run.pureG (dd := some 22) rfl rfl rfl tG (op_load1_fz rfl (Opd.topt _ _ _ rfl tO) rfl) ?_ | refine Run.loadG (dd := some 22) rfl rfl rfl tG (op_load1_refs rfl (Opd.topt _ _ _ rfl tO) tH rfl) ?_
  first | refine Run.loadG (dd := some 23) rfl rfl rfl tG (op_load1_flat rfl (Opd.tmp _ _ rfl) tH rfl) ?_ | refine Run.pureG (dd := some 23) rfl rfl rfl tG (op_load1_fz rfl (Opd.tmp _ _ rfl) rfl) ?_ | refine Run.loadG (dd := some 23) rfl rfl rfl tG (op_load1_refs rfl (Opd.tmp _ _ rfl) tH rfl) ?_
  refine Run.pureG (dd := some 24) rfl rfl rfl tG (op_eql rfl (Opd.topt _ _ _ rfl tO) (Opd.topt _ _ _ rfl tO)) ?_
  refine Run.pureG (dd := some 25) rfl rfl rfl tG (op_pick_and rfl (Opd.topt _ _ _ rfl tO) (Opd.topt _ _ _ rfl tO)) ?_
  refine Run.pure (dd := some 26) rfl rfl (op_pick_or rfl (Opd.tmp _ _ rfl) (Opd.topt _ _ _ rfl tO)) ?_
  first | refine Run.pure (dd := some 4) rfl rfl (op_assign rfl (Opd.tmp _ _ rfl)) ?_ | refine Run.pure (dd := some 4) rfl rfl (op_junk (.inr rfl)) ?_
  refine Run.nil (FinR.mk ?_)
  refine nK ?_
  (first | exact s_o1 hC rfl tV | exact s_o2 hC rfl tV tV | exact s_o3 hC rfl tV tV tV | exact s_out0 hC rfl | exact s_outO hC rfl rfl rfl)
theorem cwithout_c (g : Gr) (n : Int) (hn : g.es.length ≤ 2000000) : Pure Try.prog 8 [.agg (encG g), If .i64 n] (.agg (encG ⟨g.r, g.n, keepL (pW n) g.es⟩)) := by
  have hw := without_c g hn 19 [.cellp [If .i64 n]] (pW n) (withoutP_c n)
  refine Meets.intro Try.func8 rfl (Nat.le_of_ble_eq_true rfl) fun C hC => ?_
  simp only [List.map, argEnv, Nat.reduceAdd]
  refine nK ?_
  refine s_reg rfl ?_
  first | refine Run.eff (dd := some 2) rfl rfl (op_box_flat rfl (Opd.tmp _ _ rfl) tC rfl) ?_ | refine Run.eff (dd := some 2) rfl rfl (op_box_refs rfl (Opd.tmp _ _ rfl) tP rfl) ?_
  first | refine Run.eff (dd := some 3) rfl rfl (op_box_flat rfl (Opd.tmp _ _ rfl) tC rfl) ?_ | refine Run.eff (dd := some 3) rfl rfl (op_box_refs rfl (Opd.tmp _ _ rfl) tP rfl) ?_
  refine Run.eff (dd := some 4) rfl rfl (op_alloc rfl rfl rfl rfl) ?_
  refine Run.nil (FinR.mk ?_)
  refine nK ?_
  refine Next.weakS [2, 4] [3] (by rfl) (keeps0 hC _) (G' := [(2, .ptr 0 3 0 0), (3, .fz (.cellp [If .i64 n])), (4, .ptr 1 3 0 0)]) (H' := [(0, OG g), (1, OG zeroG)]) (by repeat (first | exact trivial | refine ⟨⟨_, rfl, .inl ⟨rfl, rfl⟩⟩, ?_⟩ | refine ⟨⟨_, rfl, .inl ⟨slEq rfl tN, rfl⟩⟩, ?_⟩ | refine ⟨⟨_, rfl, .inl ⟨ivEq tX, rfl⟩⟩, ?_⟩ | refine ⟨⟨_, rfl, .inr ⟨_, rfl, tW⟩⟩, ?_⟩)) (by exact ⟨ent_same rfl rfl rfl tL, ⟨⟨rfl, rfl, .fflat _ _ _ rfl tW⟩, trivial⟩⟩) rfl ?_
  refine nK ?_
  refine s_reg rfl ?_
  first | refine Run.load (dd := some 5) rfl rfl (op_loadw_flat rfl (Opd.tmp _ _ rfl) tH rfl) ?_ | refine Run.pure (dd := some 5) rfl rfl (op_loadw_fz rfl (Opd.tmp _ _ rfl) rfl) ?_ | refine Run.load (dd := some 5) rfl rfl (op_loadn_flat rfl (Opd.tmp _ _ rfl) tH tR tR) ?_ | refine Run.pure (dd := some 5) rfl rfl (op_loadn_fz rfl (Opd.tmp _ _ rfl) tR) ?_ | refine Run.load (dd := some 5) rfl rfl (op_loadn_refs rfl (Opd.tmp _ _ rfl) tH tR tR) ?_
  refine Run.pure (dd := some 6) rfl rfl (op_makeFuncF (fs := [.cellp [If .i64 n]]) rfl (Opds.cons _ _ _ _ (Opd.tmp _ _ rfl) Opds.nil)) ?_
  refine Run.pure (dd := some 7) rfl rfl (op_call_pure (fun _ => hw) rfl (Opd.func _) (Opds.cons _ _ _ _ (Opd.tmp _ _ rfl) (Opds.cons _ _ _ _ (Opd.tmp _ _ rfl) Opds.nil))) ?_
  first | refine Run.eff (dd := none) rfl rfl (op_store_flat rfl (Opd.tmp _ _ rfl) (Opd.tmp _ _ rfl) tC rfl rfl (by first | rfl | assumption) tS) ?_ | refine Run.eff (dd := none) rfl rfl (op_store_refs rfl (Opd.tmp _ _ rfl) (Opd.tmp _ _ rfl) tP rfl rfl rfl tS) ?_
  refine Run.nil (FinR.mk ?_)
  refine nK ?_
  (first | exact s_o1 hC rfl tV | exact s_o2 hC rfl tV tV | exact s_o3 hC rfl tV tV tV | exact s_out0 hC rfl | exact s_outO hC rfl rfl rfl)
theorem ccut_c (g : Gr) (a b : Int) (hn : g.es.length ≤ 2000000) : Pure Try.prog 10 [.agg (encG g), If .i64 a, If .i64 b] (.agg (encG ⟨g.r, g.n, keepL (pC a b) g.es⟩)) := by
  have hw := without_c g hn 20 [.cellp [If .i64 a], .cellp [If .i64 b]] (pC a b) (cutP_c a b)
  refine Meets.intro Try.func10 rfl (Nat.le_of_ble_eq_true rfl) fun C hC => ?_
  simp only [List.map, argEnv, Nat.reduceAdd]
  refine nK ?_
  refine s_reg rfl ?_
  first | refine Run.eff (dd := some 3) rfl rfl (op_box_flat rfl (Opd.tmp _ _ rfl) tC rfl) ?_ | refine Run.eff (dd := some 3) rfl rfl (op_box_refs rfl (Opd.tmp _ _ rfl) tP rfl) ?_
  first | refine Run.eff (dd := some 4) rfl rfl (op_box_flat rfl (Opd.tmp _ _ rfl) tC rfl) ?_ | refine Run.eff (dd := some 4) rfl rfl (op_box_refs rfl (Opd.tmp _ _ rfl) tP rfl) ?_
  first | refine Run.eff (dd := some 5) rfl rfl (op_box_flat rfl (Opd.tmp _ _ rfl) tC rfl) ?_ | refine Run.eff (dd := some 5) rfl rfl (op_box_refs rfl (Opd.tmp _ _ rfl) tP rfl) ?_
  refine Run.eff (dd := some 6) rfl rfl (op_alloc rfl rfl rfl rfl) ?_
  refine Run.nil (FinR.mk ?_)
  refine nK ?_
  refine Next.weakS [3, 6] [4, 5] (by rfl) (keeps0 hC _) (G' := [(3, .ptr 0 3 0 0), (4, .fz (.cellp [If .i64 a])), (5, .fz (.cellp [If .i64 b])), (6, .ptr 1 3 0 0)]) (H' := [(0, OG g), (1, OG zeroG)]) (by repeat (first | exact trivial | refine ⟨⟨_, rfl, .inl ⟨rfl, rfl⟩⟩, ?_⟩ | refine ⟨⟨_, rfl, .inl ⟨slEq rfl tN, rfl⟩⟩, ?_⟩ | refine ⟨⟨_, rfl, .inl ⟨ivEq tX, rfl⟩⟩, ?_⟩ | refine ⟨⟨_, rfl, .inr ⟨_, rfl, tW⟩⟩, ?_⟩)) (by exact ⟨ent_same rfl rfl rfl tL, ⟨⟨rfl, rfl, .fflat _ _ _ rfl tW⟩, trivial⟩⟩) rfl ?_
  refine nK ?_
  refine s_reg rfl ?_
  first | refine Run.load (dd := some 7) rfl rfl (op_loadw_flat rfl (Opd.tmp _ _ rfl) tH rfl) ?_ | refine Run.pure (dd := some 7) rfl rfl (op_loadw_fz rfl (Opd.tmp _ _ rfl) rfl) ?_ | refine Run.load (dd := some 7) rfl rfl (op_loadn_flat rfl (Opd.tmp _ _ rfl) tH tR tR) ?_ | refine Run.pure (dd := some 7) rfl rfl (op_loadn_fz rfl (Opd.tmp _ _ rfl) tR) ?_ | refine Run.load (dd := some 7) rfl rfl (op_loadn_refs rfl (Opd.tmp _ _ rfl) tH tR tR) ?_
  refine Run.pure (dd := some 8) rfl rfl (op_makeFuncF (fs := [.cellp [If .i64 a], .cellp [If .i64 b]]) rfl (Opds.cons _ _ _ _ (Opd.tmp _ _ rfl) (Opds.cons _ _ _ _ (Opd.tmp _ _ rfl) Opds.nil))) ?_
  refine Run.pure (dd := some 9) rfl rfl (op_call_pure (fun _ => hw) rfl (Opd.func _) (Opds.cons _ _ _ _ (Opd.tmp _ _ rfl) (Opds.cons _ _ _ _ (Opd.tmp _ _ rfl) Opds.nil))) ?_
  first | refine Run.eff (dd := none) rfl rfl (op_store_flat rfl (Opd.tmp _ _ rfl) (Opd.tmp _ _ rfl) tC rfl rfl (by first | rfl | assumption) tS) ?_ | refine Run.eff (dd := none) rfl rfl (op_store_refs rfl (Opd.tmp _ _ rfl) (Opd.tmp _ _ rfl) tP rfl rfl rfl tS) ?_
  refine Run.nil (FinR.mk ?_)
  refine nK ?_
  (first | exact s_o1 hC rfl tV | exact s_o2 hC rfl tV tV | exact s_o3 hC rfl tV tV tV | exact s_out0 hC rfl | exact s_outO hC rfl rfl rfl)
theorem rwithout_c (g : Gr) (n : Int) (hn : g.es.length ≤ 2000000) : Pure Try.prog 9 [.agg (encG g), If .i64 n] (.agg (encG ⟨g.r, g.n, keepL (pW n) g.es⟩)) := by
  refine Meets.intro Try.func9 rfl (Nat.le_of_ble_eq_true rfl) fun C hC => ?_
  simp only [List.map, argEnv, Nat.reduceAdd]
  refine nK ?_
  refine s_reg rfl ?_
  first | refine Run.eff (dd := some 2) rfl rfl (op_box_flat rfl (Opd.tmp _ _ rfl) tC rfl) ?_ | refine Run.eff (dd := some 2) rfl rfl (op_box_refs rfl (Opd.tmp _ _ rfl) tP rfl) ?_
  refine Run.eff (dd := some 4) rfl rfl (op_alloc rfl rfl rfl rfl) ?_
  refine Run.nil (FinR.mk ?_)
  refine nK ?_
  refine s_reg rfl ?_
  first | refine Run.pure (dd := some 7) rfl rfl (op_fld_ptr (by decide) rfl (Opd.tmp _ _ rfl)) ?_ | refine Run.pure (dd := some 7) rfl rfl (op_fld_fz (by decide) rfl (Opd.tmp _ _ rfl) tR) ?_
  first | refine Run.load (dd := some 8) rfl rfl (op_load1_flat rfl (Opd.tmp _ _ rfl) tH rfl) ?_ | refine Run.pure (dd := some 8) rfl rfl (op_load1_fz rfl (Opd.tmp _ _ rfl) rfl) ?_ | refine Run.load (dd := some 8) rfl rfl (op_load1_refs rfl (Opd.tmp _ _ rfl) tH rfl) ?_
  first | refine Run.pure (dd := some 9) rfl rfl (op_fld_ptr (by decide) rfl (Opd.tmp _ _ rfl)) ?_ | refine Run.pure (dd := some 9) rfl rfl (op_fld_fz (by decide) rfl (Opd.tmp _ _ rfl) tR) ?_
  first | refine Run.load (dd := some 10) rfl rfl (op_load1_flat rfl (Opd.tmp _ _ rfl) tH rfl) ?_ | refine Run.pure (dd := some 10) rfl rfl (op_load1_fz rfl (Opd.tmp _ _ rfl) rfl) ?_ | refine Run.load (dd := some 10) rfl rfl (op_load1_refs rfl (Opd.tmp _ _ rfl) tH rfl) ?_
  first | refine Run.pure (dd := some 11) rfl rfl (op_build rfl rfl rfl (FillF.cons _ _ _ _ _ _ _ _ _ _ (by rfl) (Opd.tmp _ _ rfl) tC (by rfl) tR (FillF.cons _ _ _ _ _ _ _ _ _ _ (by rfl) (Opd.tmp _ _ rfl) tC (by rfl) tR (FillF.nil _)))) ?_ | refine Run.pure (dd := some 11) rfl rfl (op_buildP rfl rfl rfl rfl (FillP.cons _ _ _ _ _ _ _ _ _ _ (by rfl) (Opd.tmp _ _ rfl) tP (by rfl) tR (FillP.cons _ _ _ _ _ _ _ _ _ _ (by rfl) (Opd.tmp _ _ rfl) tP (by rfl) tR (FillP.nil _)))) ?_
  refine Run.eff (dd := some 5) rfl rfl (op_alloc rfl rfl rfl rfl) ?_
  first | refine Run.eff (dd := none) rfl rfl (op_store_flat rfl (Opd.tmp _ _ rfl) (Opd.tmp _ _ rfl) tC rfl rfl (by first | rfl | assumption) tS) ?_ | refine Run.eff (dd := none) rfl rfl (op_store_refs rfl (Opd.tmp _ _ rfl) (Opd.tmp _ _ rfl) tP rfl rfl rfl tS) ?_
  refine Run.nil (FinR.mk ?_)
  refine nK ?_
  refine s_reg rfl ?_
  first | refine Run.pure (dd := some 6) rfl rfl (op_assign rfl (Opd.const _)) ?_ | refine Run.pure (dd := some 6) rfl rfl (op_junk (.inr rfl)) ?_
  refine Run.nil (FinR.mk ?_)
  refine nK ?_
  refine Next.toRefs 2 rfl rfl ?_
  refine Next.adoptCell 2 0 2 3 rfl rfl rfl rfl ?_
  refine n_loop (ι := Nat) (fun i => ([(1, IV .i64 n), (2, .ptr 0 3 0 0), (4, .ptr 1 3 0 0), (5, .ptr 2 3 0 0), (6, IV .i64 i)], [(0, OG g), (1, OG zeroG), (2, some (.refs 3 [[IV .i64 g.r, IV .i64 g.n, .sl 3 3 0 (keepL (pW n) (g.es.take i)).length]])), (3, OE (keepL (pW n) (g.es.take i)))], 4)) (fun i => i ≤ g.es.length) (fun i => g.es.length - i) 0 (Nat.zero_le _) ?_ ?_
  · refine Next.weak [0, 1, 2, 3] [] (by rfl) (keeps0 hC _) (by repeat (first | exact trivial | refine ⟨⟨_, rfl, .inl ⟨rfl, rfl⟩⟩, ?_⟩ | refine ⟨⟨_, rfl, .inl ⟨slEq rfl tN, rfl⟩⟩, ?_⟩ | refine ⟨⟨_, rfl, .inl ⟨ivEq tX, rfl⟩⟩, ?_⟩)) (by exact ⟨ent_same rfl rfl rfl tL, ⟨⟨rfl, rfl, .fflat _ _ _ rfl tW⟩, ⟨ent_same rfl rfl rfl tL, ⟨ent_same rfl rfl rfl tL, trivial⟩⟩⟩⟩) (fun _ h => by simp at h) rel_intro
  · intro i hi K hK
    have hkl := keep_len (pW n) (g.es.take i)
    have htl : (g.es.take i).length ≤ g.es.length := List.length_take_le' _ _
    refine nK ?_
    refine s_reg rfl ?_
    first | refine Run.pure (dd := some 12) rfl rfl (op_move rfl (Opd.tmp _ _ rfl)) ?_ | refine Run.pure (dd := some 12) rfl rfl (op_junk (.inl rfl)) ?_
    first | refine Run.pure (dd := some 13) rfl rfl (op_fld_ptr (by decide) rfl (Opd.tmp _ _ rfl)) ?_ | refine Run.pure (dd := some 13) rfl rfl (op_fld_fz (by decide) rfl (Opd.tmp _ _ rfl) tR) ?_
    first | refine Run.load (dd := some 14) rfl rfl (op_load1_flat rfl (Opd.tmp _ _ rfl) tH rfl) ?_ | refine Run.pure (dd := some 14) rfl rfl (op_load1_fz rfl (Opd.tmp _ _ rfl) rfl) ?_ | refine Run.load (dd := some 14) rfl rfl (op_load1_refs rfl (Opd.tmp _ _ rfl) tH rfl) ?_
    first | refine Run.pure (dd := some 15) rfl rfl (op_len_fz rfl (by first | exact Opd.tmp _ _ rfl | exact Opd.nil _ _ (Opd.tmp _ _ rfl)) (by first | exact List.length_map _ | rfl)) ?_ | refine Run.pure (dd := some 15) rfl rfl (op_len_sl rfl (Opd.tmp _ _ rfl)) ?_
    refine Run.pure (dd := some 16) rfl rfl (op_lss rfl (Opd.tmp _ _ rfl) (Opd.tmp _ _ rfl)) ?_
    refine Run.nil (FinR.mk ?_)
    refine nK ?_
    refine n_cond _ rfl (fun hb => ?_) (fun hb => ?_)
    · have hlt : i < g.es.length := by simp at hb; omega
      have hr1 := row_at' encE g.es i hlt
      have hst := keep_take (pW n) g.es i hlt
      have hK1 := hK (i + 1) (by omega) (by omega)
      rw [hst] at hK1
      generalize keepL (pW n) (g.es.take i) = acc at *
      generalize g.es[i] = e at *
      refine nK ?_
      refine s_reg rfl ?_
      first | refine Run.pure (dd := some 19) rfl rfl (op_fld_ptr (by decide) rfl (Opd.tmp _ _ rfl)) ?_ | refine Run.pure (dd := some 19) rfl rfl (op_fld_fz (by decide) rfl (Opd.tmp _ _ rfl) tR) ?_
      first | refine Run.load (dd := some 20) rfl rfl (op_load1_flat rfl (Opd.tmp _ _ rfl) tH rfl) ?_ | refine Run.pure (dd := some 20) rfl rfl (op_load1_fz rfl (Opd.tmp _ _ rfl) rfl) ?_ | refine Run.load (dd := some 20) rfl rfl (op_load1_refs rfl (Opd.tmp _ _ rfl) tH rfl) ?_
      first | refine Run.pure (dd := some 21) rfl rfl (op_move rfl (Opd.tmp _ _ rfl)) ?_ | refine Run.pure (dd := some 21) rfl rfl (op_junk (.inl rfl)) ?_
      first | refine Run.pure (dd := some 22) rfl rfl (op_idx_sl0 _ rfl (Opd.tmp _ _ rfl) (Opd.tmp _ _ rfl) tD) ?_ | refine Run.pure (dd := some 22) rfl rfl (op_idx_fz _ rfl (Opd.tmp _ _ rfl) (Opd.tmp _ _ rfl) tF) ?_
      first | refine Run.pure (dd := some 23) rfl rfl (op_fld_ptr (by decide) rfl (Opd.tmp _ _ rfl)) ?_ | refine Run.pure (dd := some 23) rfl rfl (op_fld_fz (by decide) rfl (Opd.tmp _ _ rfl) tR) ?_
      first | refine Run.load (dd := some 24) rfl rfl (op_load1_flat rfl (Opd.tmp _ _ rfl) tH rfl) ?_ | refine Run.pure (dd := some 24) rfl rfl (op_load1_fz rfl (Opd.tmp _ _ rfl) rfl) ?_ | refine Run.load (dd := some 24) rfl rfl (op_load1_refs rfl (Opd.tmp _ _ rfl) tH rfl) ?_
      first | refine Run.pure (dd := some 25) rfl rfl (op_move rfl (Opd.tmp _ _ rfl)) ?_ | refine Run.pure (dd := some 25) rfl rfl (op_junk (.inl rfl)) ?_
      refine Run.pure (dd := some 26) rfl rfl (op_neq rfl (Opd.tmp _ _ rfl) (Opd.tmp _ _ rfl)) ?_
      first | refine Run.pure (dd := some 27) rfl rfl (op_move rfl (Opd.tmp _ _ rfl)) ?_ | refine Run.pure (dd := some 27) rfl rfl (op_junk (.inl rfl)) ?_
      first | refine Run.pureG (dd := some 28) rfl rfl rfl tG (op_fld_ptr (by decide) rfl (Opd.tmp _ _ rfl)) ?_ | refine Run.pureG (dd := some 28) rfl rfl rfl tG (op_fld_fz (by decide) rfl (Opd.tmp _ _ rfl) tR) ?_
      first | refine Run.loadG (dd := some 29) rfl rfl rfl tG (op_load1_flat rfl (Opd.topt _ _ _ rfl tO) tH rfl) ?_ | refine Run.pureG (dd := some 29) rfl rfl rfl tG (op_load1_fz rfl (Opd.topt _ _ _ rfl tO) rfl) ?_ | refine Run.loadG (dd := some 29) rfl rfl rfl tG (op_load1_refs rfl (Opd.topt _ _ _ rfl tO) tH rfl) ?_
      first | refine Run.pureG (dd := some 30) rfl rfl rfl tG (op_move rfl (Opd.tmp _ _ rfl)) ?_ | refine Run.pureG (dd := some 30) rfl rfl rfl tG (op_junk (.inl rfl)) ?_
      first | refine Run.pureG (dd := some 31) rfl rfl rfl tG (op_idx_sl0 _ rfl (Opd.topt _ _ _ rfl tO) (Opd.topt _ _ _ rfl tO) tD) ?_ | refine Run.pureG (dd := some 31) rfl rfl rfl tG (op_idx_fz _ rfl (Opd.topt _ _ _ rfl tO) (Opd.topt _ _ _ rfl tO) tF) ?_
      first | refine Run.pureG (dd := some 32) rfl rfl rfl tG (op_fld_ptr (by decide) rfl (Opd.topt _ _ _ rfl tO)) ?_ | refine Run.pureG (dd := some 32) rfl rfl rfl tG (op_fld_fz (by decide) rfl (Opd.topt _ _ _ rfl tO) tR) ?_
      first | refine Run.loadG (dd := some 33) rfl rfl rfl tG (op_load1_flat rfl (Opd.topt _ _ _ rfl tO) tH rfl) ?_ | refine Run.pureG (dd := some 33) rfl rfl rfl tG (op_load1_fz rfl (Opd.topt _ _ _ rfl tO) rfl) ?_ | refine Run.loadG (dd := some 33) rfl rfl rfl tG (op_load1_refs rfl (Opd.topt _ _ _ rfl tO) tH rfl) ?_
      first | refine Run.pureG (dd := some 34) rfl rfl rfl tG (op_move rfl (Opd.tmp _ _ rfl)) ?_ | refine Run.pureG (dd := some 34) rfl rfl rfl tG (op_junk (.inl rfl)) ?_
      refine Run.pureG (dd := some 35) rfl rfl rfl tG (op_neq rfl (Opd.topt _ _ _ rfl tO) (Opd.topt _ _ _ rfl tO)) ?_
      refine Run.pure (dd := some 36) rfl rfl (op_pick_and rfl (Opd.tmp _ _ rfl) (Opd.topt _ _ _ rfl tO)) ?_
      refine Run.nil (FinR.mk ?_)
      refine nK ?_
      refine n_cond _ rfl (fun hb => ?_) (fun hb => ?_)
      · have hne : pW n e = false := by simp [pW] at hb ⊢; exact hb
        rw [hne, cond_false] at hK1
        have e4 : (acc ++ [e]).length = acc.length + 1 := by simp
        rw [e4] at hK1
        rw [show OE (acc ++ [e]) = some (.flat 3 (acc.map encE ++ [encE e])) by simp] at hK1
        refine nK ?_
        refine s_draw mixed ?_
        first | refine Run.pure (dd := some 37) rfl rfl (op_fld_ptr (by decide) rfl (Opd.tmp _ _ rfl)) ?_ | refine Run.pure (dd := some 37) rfl rfl (op_fld_fz (by decide) rfl (Opd.tmp _ _ rfl) tR) ?_
        first | refine Run.load (dd := some 38) rfl rfl (op_load1_flat rfl (Opd.tmp _ _ rfl) tH rfl) ?_ | refine Run.pure (dd := some 38) rfl rfl (op_load1_fz rfl (Opd.tmp _ _ rfl) rfl) ?_ | refine Run.load (dd := some 38) rfl rfl (op_load1_refs rfl (Opd.tmp _ _ rfl) tH rfl) ?_
        first | refine Run.pure (dd := some 39) rfl rfl (op_fld_ptr (by decide) rfl (Opd.tmp _ _ rfl)) ?_ | refine Run.pure (dd := some 39) rfl rfl (op_fld_fz (by decide) rfl (Opd.tmp _ _ rfl) tR) ?_
        first | refine Run.load (dd := some 40) rfl rfl (op_load1_flat rfl (Opd.tmp _ _ rfl) tH rfl) ?_ | refine Run.pure (dd := some 40) rfl rfl (op_load1_fz rfl (Opd.tmp _ _ rfl) rfl) ?_ | refine Run.load (dd := some 40) rfl rfl (op_load1_refs rfl (Opd.tmp _ _ rfl) tH rfl) ?_
        first | refine Run.pure (dd := some 41) rfl rfl (op_move rfl (Opd.tmp _ _ rfl)) ?_ | refine Run.pure (dd := some 41) rfl rfl (op_junk (.inl rfl)) ?_
        first | refine Run.pure (dd := some 42) rfl rfl (op_idx_sl0 _ rfl (Opd.tmp _ _ rfl) (Opd.tmp _ _ rfl) tD) ?_ | refine Run.pure (dd := some 42) rfl rfl (op_idx_fz _ rfl (Opd.tmp _ _ rfl) (Opd.tmp _ _ rfl) tF) ?_
        first | refine Run.load (dd := some 43) rfl rfl (op_loadw_flat rfl (Opd.tmp _ _ rfl) tH rfl) ?_ | refine Run.pure (dd := some 43) rfl rfl (op_loadw_fz rfl (Opd.tmp _ _ rfl) rfl) ?_ | refine Run.load (dd := some 43) rfl rfl (op_loadn_flat rfl (Opd.tmp _ _ rfl) tH tR tR) ?_ | refine Run.pure (dd := some 43) rfl rfl (op_loadn_fz rfl (Opd.tmp _ _ rfl) tR) ?_ | refine Run.load (dd := some 43) rfl rfl (op_loadn_refs rfl (Opd.tmp _ _ rfl) tH tR tR) ?_
        refine Run.pure (dd := some 44) rfl rfl (op_buildSlice_fz rfl (RowsF.cons _ _ _ _ _ _ (Opd.tmp _ _ rfl) tC (by rfl) (RowsF.nil _)) rfl rfl) ?_
        first | refine Run.effW (dd := some 45) rfl rfl (op_append_own0 rfl (Opd.tmp _ _ rfl) (Opd.tmp _ _ rfl) rfl (by first | rfl | simp) rfl (by first | rfl | simp) rfl rfl tB tB) tE ?_ | refine Run.effW (dd := some 45) rfl rfl (op_append rfl (Opd.tmp _ _ rfl) (by first | exact Opd.tmp _ _ rfl | exact Opd.nil _ _ (Opd.tmp _ _ rfl)) rfl (by first | rfl | simp) rfl rfl tB tB) tE ?_
        first | refine Run.pure (dd := some 46) rfl rfl (op_fld_ptr (by decide) rfl (Opd.tmp _ _ rfl)) ?_ | refine Run.pure (dd := some 46) rfl rfl (op_fld_fz (by decide) rfl (Opd.tmp _ _ rfl) tR) ?_
        first | refine Run.effW (dd := none) rfl rfl (op_store_flat rfl (Opd.tmp _ _ rfl) (Opd.tmp _ _ rfl) tC rfl rfl (by first | rfl | assumption) tS) tE ?_ | refine Run.effW (dd := none) rfl rfl (op_store_refs rfl (Opd.tmp _ _ rfl) (Opd.tmp _ _ rfl) tP rfl rfl rfl tS) tE ?_
        refine Run.nil (FinD.mk (by kernel_rfl) ?_)
        refine nK ?_
        refine s_reg rfl ?_
        first | refine Run.pure (dd := some 17) rfl rfl (op_move rfl (Opd.tmp _ _ rfl)) ?_ | refine Run.pure (dd := some 17) rfl rfl (op_junk (.inl rfl)) ?_
        refine Run.pure (dd := some 18) rfl rfl (op_add rfl (Opd.tmp _ _ rfl) (Opd.const _) tI) ?_
        first | refine Run.pure (dd := some 6) rfl rfl (op_assign rfl (Opd.tmp _ _ rfl)) ?_ | refine Run.pure (dd := some 6) rfl rfl (op_junk (.inr rfl)) ?_
        refine Run.nil (FinR.mk ?_)
        refine nK ?_
        refine Next.weak [0, 1, 2, 4] [] (by rfl) (keeps0 hC _) (by repeat (first | exact trivial | refine ⟨⟨_, rfl, .inl ⟨rfl, rfl⟩⟩, ?_⟩ | refine ⟨⟨_, rfl, .inl ⟨slEq rfl tN, rfl⟩⟩, ?_⟩ | refine ⟨⟨_, rfl, .inl ⟨ivEq tX, rfl⟩⟩, ?_⟩)) (by exact ⟨ent_same rfl rfl rfl tL, ⟨ent_same rfl rfl rfl tL, ⟨ent_same rfl rfl rfl tL, ⟨ent_same rfl rfl rfl tL, trivial⟩⟩⟩⟩) (fun _ h => by simp at h) hK1
      · have hne : pW n e = true := by simp [pW] at hb ⊢; exact (Classical.em (e.f = n)).imp id hb
        rw [hne, cond_true, List.append_nil] at hK1
        refine nK ?_
        refine s_reg rfl ?_
        first | refine Run.pure (dd := some 17) rfl rfl (op_move rfl (Opd.tmp _ _ rfl)) ?_ | refine Run.pure (dd := some 17) rfl rfl (op_junk (.inl rfl)) ?_
        refine Run.pure (dd := some 18) rfl rfl (op_add rfl (Opd.tmp _ _ rfl) (Opd.const _) tI) ?_
        first | refine Run.pure (dd := some 6) rfl rfl (op_assign rfl (Opd.tmp _ _ rfl)) ?_ | refine Run.pure (dd := some 6) rfl rfl (op_junk (.inr rfl)) ?_
        refine Run.nil (FinR.mk ?_)
        refine nK ?_
        refine Next.weak [0, 1, 2, 3] [] (by rfl) (keeps0 hC _) (by repeat (first | exact trivial | refine ⟨⟨_, rfl, .inl ⟨rfl, rfl⟩⟩, ?_⟩ | refine ⟨⟨_, rfl, .inl ⟨slEq rfl tN, rfl⟩⟩, ?_⟩ | refine ⟨⟨_, rfl, .inl ⟨ivEq tX, rfl⟩⟩, ?_⟩)) (by exact ⟨ent_same rfl rfl rfl tL, ⟨ent_same rfl rfl rfl tL, ⟨ent_same rfl rfl rfl tL, ⟨ent_same rfl rfl rfl tL, trivial⟩⟩⟩⟩) (fun _ h => by simp at h) hK1
    · have hie : i = g.es.length := by simp at hb; omega
      rw [take_len_eq' hie]
      refine Next.weak [1, 2] [3] (by rfl) (keeps0 hC _) (G' := [(4, .ptr 0 3 0 0), (5, .ptr 1 3 0 0)]) (H' := [(0, OG zeroG), (1, OG ⟨g.r, g.n, keepL (pW n) g.es⟩)]) (by repeat (first | exact trivial | refine ⟨⟨_, rfl, .inl ⟨rfl, rfl⟩⟩, ?_⟩ | refine ⟨⟨_, rfl, .inl ⟨slEq rfl tN, rfl⟩⟩, ?_⟩ | refine ⟨⟨_, rfl, .inl ⟨ivEq tX, rfl⟩⟩, ?_⟩)) (by exact ⟨ent_same rfl rfl rfl tL, ⟨⟨rfl, rfl, .flat _ _ _ rfl tW⟩, trivial⟩⟩) (fun id h => by obtain rfl : id = 3 := (by simpa using h); exact ⟨_, rfl⟩) ?_
      refine nK ?_
      refine s_reg rfl ?_
      first | refine Run.load (dd := some 47) rfl rfl (op_loadw_flat rfl (Opd.tmp _ _ rfl) tH rfl) ?_ | refine Run.pure (dd := some 47) rfl rfl (op_loadw_fz rfl (Opd.tmp _ _ rfl) rfl) ?_ | refine Run.load (dd := some 47) rfl rfl (op_loadn_flat rfl (Opd.tmp _ _ rfl) tH tR tR) ?_ | refine Run.pure (dd := some 47) rfl rfl (op_loadn_fz rfl (Opd.tmp _ _ rfl) tR) ?_ | refine Run.load (dd := some 47) rfl rfl (op_loadn_refs rfl (Opd.tmp _ _ rfl) tH tR tR) ?_
      first | refine Run.eff (dd := none) rfl rfl (op_store_flat rfl (Opd.tmp _ _ rfl) (Opd.tmp _ _ rfl) tC rfl rfl (by first | rfl | assumption) tS) ?_ | refine Run.eff (dd := none) rfl rfl (op_store_refs rfl (Opd.tmp _ _ rfl) (Opd.tmp _ _ rfl) tP rfl rfl rfl tS) ?_
      refine Run.nil (FinR.mk ?_)
      refine nK ?_
      (first | exact s_o1 hC rfl tV | exact s_o2 hC rfl tV tV | exact s_o3 hC rfl tV tV tV | exact s_out0 hC rfl | exact s_outO hC rfl rfl rfl)
theorem rcut_c (g : Gr) (a b : Int) (hn : g.es.length ≤ 2000000) : Pure Try.prog 11 [.agg (encG g), If .i64 a, If .i64 b] (.agg (encG ⟨g.r, g.n, keepL (pC a b) g.es⟩)) := by
  refine Meets.intro Try.func11 rfl (Nat.le_of_ble_eq_true rfl) fun C hC => ?_
  simp only [List.map, argEnv, Nat.reduceAdd]
  refine nK ?_
  refine s_reg rfl ?_
  first | refine Run.eff (dd := some 3) rfl rfl (op_box_flat rfl (Opd.tmp _ _ rfl) tC rfl) ?_ | refine Run.eff (dd := some 3) rfl rfl (op_box_refs rfl (Opd.tmp _ _ rfl) tP rfl) ?_
  refine Run.eff (dd := some 6) rfl rfl (op_alloc rfl rfl rfl rfl) ?_
  refine Run.nil (FinR.mk ?_)
  refine nK ?_
  refine s_reg rfl ?_
  first | refine Run.pure (dd := some 10) rfl rfl (op_fld_ptr (by decide) rfl (Opd.tmp _ _ rfl)) ?_ | refine Run.pure (dd := some 10) rfl rfl (op_fld_fz (by decide) rfl (Opd.tmp _ _ rfl) tR) ?_
  first | refine Run.load (dd := some 11) rfl rfl (op_load1_flat rfl (Opd.tmp _ _ rfl) tH rfl) ?_ | refine Run.pure (dd := some 11) rfl rfl (op_load1_fz rfl (Opd.tmp _ _ rfl) rfl) ?_ | refine Run.load (dd := some 11) rfl rfl (op_load1_refs rfl (Opd.tmp _ _ rfl) tH rfl) ?_
  first | refine Run.pure (dd := some 12) rfl rfl (op_fld_ptr (by decide) rfl (Opd.tmp _ _ rfl)) ?_ | refine Run.pure (dd := some 12) rfl rfl (op_fld_fz (by decide) rfl (Opd.tmp _ _ rfl) tR) ?_
  first | refine Run.load (dd := some 13) rfl rfl (op_load1_flat rfl (Opd.tmp _ _ rfl) tH rfl) ?_ | refine Run.pure (dd := some 13) rfl rfl (op_load1_fz rfl (Opd.tmp _ _ rfl) rfl) ?_ | refine Run.load (dd := some 13) rfl rfl (op_load1_refs rfl (Opd.tmp _ _ rfl) tH rfl) ?_
  first | refine Run.pure (dd := some 14) rfl rfl (op_build rfl rfl rfl (FillF.cons _ _ _ _ _ _ _ _ _ _ (by rfl) (Opd.tmp _ _ rfl) tC (by rfl) tR (FillF.cons _ _ _ _ _ _ _ _ _ _ (by rfl) (Opd.tmp _ _ rfl) tC (by rfl) tR (FillF.nil _)))) ?_ | refine Run.pure (dd := some 14) rfl rfl (op_buildP rfl rfl rfl rfl (FillP.cons _ _ _ _ _ _ _ _ _ _ (by rfl) (Opd.tmp _ _ rfl) tP (by rfl) tR (FillP.cons _ _ _ _ _ _ _ _ _ _ (by rfl) (Opd.tmp _ _ rfl) tP (by rfl) tR (FillP.nil _)))) ?_
  refine Run.eff (dd := some 7) rfl rfl (op_alloc rfl rfl rfl rfl) ?_
  first | refine Run.eff (dd := none) rfl rfl (op_store_flat rfl (Opd.tmp _ _ rfl) (Opd.tmp _ _ rfl) tC rfl rfl (by first | rfl | assumption) tS) ?_ | refine Run.eff (dd := none) rfl rfl (op_store_refs rfl (Opd.tmp _ _ rfl) (Opd.tmp _ _ rfl) tP rfl rfl rfl tS) ?_
  refine Run.nil (FinR.mk ?_)
  refine nK ?_
  refine s_reg rfl ?_
  first | refine Run.pure (dd := some 8) rfl rfl (op_assign rfl (Opd.const _)) ?_ | refine Run.pure (dd := some 8) rfl rfl (op_junk (.inr rfl)) ?_
  refine Run.nil (FinR.mk ?_)
  refine nK ?_
  refine Next.toRefs 2 rfl rfl ?_
  refine Next.adoptCell 2 0 2 3 rfl rfl rfl rfl ?_
  refine n_loop (ι := Nat) (fun i => ([(1, IV .i64 a), (2, IV .i64 b), (3, .ptr 0 3 0 0), (6, .ptr 1 3 0 0), (7, .ptr 2 3 0 0), (8, IV .i64 i)], [(0, OG g), (1, OG zeroG), (2, some (.refs 3 [[IV .i64 g.r, IV .i64 g.n, .sl 3 3 0 (keepL (pC a b) (g.es.take i)).length]])), (3, OE (keepL (pC a b) (g.es.take i)))], 4)) (fun i => i ≤ g.es.length) (fun i => g.es.length - i) 0 (Nat.zero_le _) ?_ ?_
  · refine Next.weak [0, 1, 2, 3] [] (by rfl) (keeps0 hC _) (by repeat (first | exact trivial | refine ⟨⟨_, rfl, .inl ⟨rfl, rfl⟩⟩, ?_⟩ | refine ⟨⟨_, rfl, .inl ⟨slEq rfl tN, rfl⟩⟩, ?_⟩ | refine ⟨⟨_, rfl, .inl ⟨ivEq tX, rfl⟩⟩, ?_⟩)) (by exact ⟨ent_same rfl rfl rfl tL, ⟨⟨rfl, rfl, .fflat _ _ _ rfl tW⟩, ⟨ent_same rfl rfl rfl tL, ⟨ent_same rfl rfl rfl tL, trivial⟩⟩⟩⟩) (fun _ h => by simp at h) rel_intro
  · intro i hi K hK
    have hkl := keep_len (pC a b) (g.es.take i)
    have htl : (g.es.take i).length ≤ g.es.length := List.length_take_le' _ _
    refine nK ?_
    refine s_reg rfl ?_
    first | refine Run.pure (dd := some 15) rfl rfl (op_move rfl (Opd.tmp _ _ rfl)) ?_ | refine Run.pure (dd := some 15) rfl rfl (op_junk (.inl rfl)) ?_
    first | refine Run.pure (dd := some 16) rfl rfl (op_fld_ptr (by decide) rfl (Opd.tmp _ _ rfl)) ?_ | refine Run.pure (dd := some 16) rfl rfl (op_fld_fz (by decide) rfl (Opd.tmp _ _ rfl) tR) ?_
    first | refine Run.load (dd := some 17) rfl rfl (op_load1_flat rfl (Opd.tmp _ _ rfl) tH rfl) ?_ | refine Run.pure (dd := some 17) rfl rfl (op_load1_fz rfl (Opd.tmp _ _ rfl) rfl) ?_ | refine Run.load (dd := some 17) rfl rfl (op_load1_refs rfl (Opd.tmp _ _ rfl) tH rfl) ?_
    first | refine Run.pure (dd := some 18) rfl rfl (op_len_fz rfl (by first | exact Opd.tmp _ _ rfl | exact Opd.nil _ _ (Opd.tmp _ _ rfl)) (by first | exact List.length_map _ | rfl)) ?_ | refine Run.pure (dd := some 18) rfl rfl (op_len_sl rfl (Opd.tmp _ _ rfl)) ?_
    refine Run.pure (dd := some 19) rfl rfl (op_lss rfl (Opd.tmp _ _ rfl) (Opd.tmp _ _ rfl)) ?_
    refine Run.nil (FinR.mk ?_)
    refine nK ?_
    refine n_cond _ rfl (fun hb => ?_) (fun hb => ?_)
    · have hlt : i < g.es.length := by simp at hb; omega
      have hr1 := row_at' encE g.es i hlt
      have hst := keep_take (pC a b) g.es i hlt
      have hK1 := hK (i + 1) (by omega) (by omega)
      rw [hst] at hK1
      generalize keepL (pC a b) (g.es.take i) = acc at *
      generalize g.es[i] = e at *
      refine nK ?_
      refine s_reg rfl ?_
      first | refine Run.pure (dd := some 22) rfl rfl (op_fld_ptr (by decide) rfl (Opd.tmp _ _ rfl)) ?_ | refine Run.pure (dd := some 22) rfl rfl (op_fld_fz (by decide) rfl (Opd.tmp _ _ rfl) tR) ?_
      first | refine Run.load (dd := some 23) rfl rfl (op_load1_flat rfl (Opd.tmp _ _ rfl) tH rfl) ?_ | refine Run.pure (dd := some 23) rfl rfl (op_load1_fz rfl (Opd.tmp _ _ rfl) rfl) ?_ | refine Run.load (dd := some 23) rfl rfl (op_load1_refs rfl (Opd.tmp _ _ rfl) tH rfl) ?_
      first | refine Run.pure (dd := some 24) rfl rfl (op_move rfl (Opd.tmp _ _ rfl)) ?_ | refine Run.pure (dd := some 24) rfl rfl (op_junk (.inl rfl)) ?_
      first | refine Run.pure (dd := some 25) rfl rfl (op_idx_sl0 _ rfl (Opd.tmp _ _ rfl) (Opd.tmp _ _ rfl) tD) ?_ | refine Run.pure (dd := some 25) rfl rfl (op_idx_fz _ rfl (Opd.tmp _ _ rfl) (Opd.tmp _ _ rfl) tF) ?_
      first | refine Run.load (dd := some 26) rfl rfl (op_loadw_flat rfl (Opd.tmp _ _ rfl) tH rfl) ?_ | refine Run.pure (dd := some 26) rfl rfl (op_loadw_fz rfl (Opd.tmp _ _ rfl) rfl) ?_ | refine Run.load (dd := some 26) rfl rfl (op_loadn_flat rfl (Opd.tmp _ _ rfl) tH tR tR) ?_ | refine Run.pure (dd := some 26) rfl rfl (op_loadn_fz rfl (Opd.tmp _ _ rfl) tR) ?_ | refine Run.load (dd := some 26) rfl rfl (op_loadn_refs rfl (Opd.tmp _ _ rfl) tH tR tR) ?_
      refine Run.eff (dd := some 9) rfl rfl (op_alloc rfl rfl rfl rfl) ?_
      first | refine Run.eff (dd := none) rfl rfl (op_store_flat rfl (Opd.tmp _ _ rfl) (Opd.tmp _ _ rfl) tC rfl rfl (by first | rfl | assumption) tS) ?_ | refine Run.eff (dd := none) rfl rfl (op_store_refs rfl (Opd.tmp _ _ rfl) (Opd.tmp _ _ rfl) tP rfl rfl rfl tS) ?_
      refine Run.nil (FinR.mk ?_)
      refine nK ?_
      refine s_reg rfl ?_
      first | refine Run.pure (dd := some 27) rfl rfl (op_fld_ptr (by decide) rfl (Opd.tmp _ _ rfl)) ?_ | refine Run.pure (dd := some 27) rfl rfl (op_fld_fz (by decide) rfl (Opd.tmp _ _ rfl) tR) ?_
      first | refine Run.load (dd := some 28) rfl rfl (op_load1_flat rfl (Opd.tmp _ _ rfl) tH rfl) ?_ | refine Run.pure (dd := some 28) rfl rfl (op_load1_fz rfl (Opd.tmp _ _ rfl) rfl) ?_ | refine Run.load (dd := some 28) rfl rfl (op_load1_refs rfl (Opd.tmp _ _ rfl) tH rfl) ?_
      first | refine Run.pure (dd := some 29) rfl rfl (op_move rfl (Opd.tmp _ _ rfl)) ?_ | refine Run.pure (dd := some 29) rfl rfl (op_junk (.inl rfl)) ?_
      refine Run.pure (dd := some 30) rfl rfl (op_eql rfl (Opd.tmp _ _ rfl) (Opd.tmp _ _ rfl)) ?_
      first | refine Run.pure (dd := some 31) rfl rfl (op_move rfl (Opd.tmp _ _ rfl)) ?_ | refine Run.pure (dd := some 31) rfl rfl (op_junk (.inl rfl)) ?_
      first | refine Run.pureG (dd := some 32) rfl rfl rfl tG (op_fld_ptr (by decide) rfl (Opd.tmp _ _ rfl)) ?_ | refine Run.pureG (dd := some 32) rfl rfl rfl tG (op_fld_fz (by decide) rfl (Opd.tmp _ _ rfl) tR) ?_
      first | refine Run.loadG (dd := some 33) rfl rfl rfl tG (op_load1_flat rfl (Opd.topt _ _ _ rfl tO) tH rfl) ?_ | refine Run.pureG (dd := some 33) rfl rfl rfl tG (op_load1_fz rfl (Opd.topt _ _ _ rfl tO) rfl) ?_ | refine Run.loadG (dd := some 33) rfl rfl rfl tG (op_load1_refs rfl (Opd.topt _ _ _ rfl tO) tH rfl) ?_
      first | refine Run.pureG (dd := some 34) rfl rfl rfl tG (op_move rfl (Opd.tmp _ _ rfl)) ?_ | refine Run.pureG (dd := some 34) rfl rfl rfl tG (op_junk (.inl rfl)) ?_
      refine Run.pureG (dd := some 35) rfl rfl rfl tG (op_eql rfl (Opd.topt _ _ _ rfl tO) (Opd.topt _ _ _ rfl tO)) ?_
      refine Run.pure (dd := some 36) rfl rfl (op_pick_and rfl (Opd.tmp _ _ rfl) (Opd.topt _ _ _ rfl tO)) ?_
      first | refine Run.pure (dd := some 37) rfl rfl (op_move rfl (Opd.tmp _ _ rfl)) ?_ | refine Run.pure (dd := some 37) rfl rfl (op_junk (.inl rfl)) ?_
      first | refine Run.pureG (dd := some 38) rfl rfl rfl tG (op_fld_ptr (by decide) rfl (Opd.tmp _ _ rfl)) ?_ | refine Run.pureG (dd := some 38) rfl rfl rfl tG (op_fld_fz (by decide) rfl (Opd.tmp _ _ rfl) tR) ?_
      first | refine Run.loadG (dd := some 39) rfl rfl rfl tG (op_load1_flat rfl (Opd.topt _ _ _ rfl tO) tH rfl) ?_ | refine Run.pureG (dd := some 39) rfl rfl rfl tG (op_load1_fz rfl (Opd.topt _ _ _ rfl tO) rfl) ?_ | refine Run.loadG (dd := some 39) rfl rfl rfl tG (op_load1_refs rfl (Opd.topt _ _ _ rfl tO) tH rfl) ?_
      first | refine Run.pureG (dd := some 40) rfl rfl rfl tG (op_move rfl (Opd.tmp _ _ rfl)) ?_ | refine Run.pureG (dd := some 40) rfl rfl rfl tG (op_junk (.inl rfl)) ?_
      refine Run.pureG (dd := some 41) rfl rfl rfl tG (op_eql rfl (Opd.topt _ _ _ rfl tO) (Opd.topt _ _ _ rfl tO)) ?_
      first | refine Run.pureG (dd := some 42) rfl rfl rfl tG (op_move rfl (Opd.topt _ _ _ rfl tO)) ?_ | refine Run.pureG (dd := some 42) rfl rfl rfl tG (op_junk (.inl rfl)) ?_
      first | refine Run.pureG (dd := some 43) rfl rfl rfl tG (op_fld_ptr (by decide) rfl (Opd.tmp _ _ rfl)) ?_ | refine Run.pureG (dd := some 43) rfl rfl rfl tG (op_fld_fz (by decide) rfl (Opd.tmp _ _ rfl) tR) ?_
      first | refine Run.loadG (dd := some 44) rfl rfl rfl tG (op_load1_flat rfl (Opd.topt _ _ _ rfl tO) tH rfl) ?_ | refine Run.pureG (dd := some 44) rfl rfl rfl tG (op_load1_fz rfl (Opd.topt _ _ _ rfl tO) rfl) ?_ | refine Run.loadG (dd := some 44) rfl rfl rfl tG (op_load1_refs rfl (Opd.topt _ _ _ rfl tO) tH rfl) ?_
      first | refine Run.pureG (dd := some 45) rfl rfl rfl tG (op_move rfl (Opd.tmp _ _ rfl)) ?_ | refine Run.pureG (dd := some 45) rfl rfl rfl tG (op_junk (.inl rfl)) ?_
      refine Run.pureG (dd := some 46) rfl rfl rfl tG (op_eql rfl (Opd.topt _ _ _ rfl tO) (Opd.topt _ _ _ rfl tO)) ?_
      refine Run.pureG (dd := some 47) rfl rfl rfl tG (op_pick_and rfl (Opd.topt _ _ _ rfl tO) (Opd.topt _ _ _ rfl tO)) ?_
      refine Run.pure (dd := some 48) rfl rfl (op_pick_or rfl (Opd.tmp _ _ rfl) (Opd.topt _ _ _ rfl tO)) ?_
      refine Run.pure (dd := some 49) rfl rfl (op_not rfl (Opd.tmp _ _ rfl)) ?_
      refine Run.nil (FinR.mk ?_)
      refine nK ?_
      refine n_cond _ rfl (fun hb => ?_) (fun hb => ?_)
      · have hne : pC a b e = false := by simpa only [Bool.not_eq_true'] using hb
        rw [hne, cond_false] at hK1
        have e4 : (acc ++ [e]).length = acc.length + 1 := by simp
        rw [e4] at hK1
        rw [show OE (acc ++ [e]) = some (.flat 3 (acc.map encE ++ [encE e])) by simp] at hK1
        refine nK ?_
        refine s_reg rfl ?_
        first | refine Run.pure (dd := some 50) rfl rfl (op_fld_ptr (by decide) rfl (Opd.tmp _ _ rfl)) ?_ | refine Run.pure (dd := some 50) rfl rfl (op_fld_fz (by decide) rfl (Opd.tmp _ _ rfl) tR) ?_
        first | refine Run.load (dd := some 51) rfl rfl (op_load1_flat rfl (Opd.tmp _ _ rfl) tH rfl) ?_ | refine Run.pure (dd := some 51) rfl rfl (op_load1_fz rfl (Opd.tmp _ _ rfl) rfl) ?_ | refine Run.load (dd := some 51) rfl rfl (op_load1_refs rfl (Opd.tmp _ _ rfl) tH rfl) ?_
        first | refine Run.load (dd := some 52) rfl rfl (op_loadw_flat rfl (Opd.tmp _ _ rfl) tH rfl) ?_ | refine Run.pure (dd := some 52) rfl rfl (op_loadw_fz rfl (Opd.tmp _ _ rfl) rfl) ?_ | refine Run.load (dd := some 52) rfl rfl (op_loadn_flat rfl (Opd.tmp _ _ rfl) tH tR tR) ?_ | refine Run.pure (dd := some 52) rfl rfl (op_loadn_fz rfl (Opd.tmp _ _ rfl) tR) ?_ | refine Run.load (dd := some 52) rfl rfl (op_loadn_refs rfl (Opd.tmp _ _ rfl) tH tR tR) ?_
        refine Run.pure (dd := some 53) rfl rfl (op_buildSlice_fz rfl (RowsF.cons _ _ _ _ _ _ (Opd.tmp _ _ rfl) tC (by rfl) (RowsF.nil _)) rfl rfl) ?_
        first | refine Run.eff (dd := some 54) rfl rfl (op_append_own0 rfl (Opd.tmp _ _ rfl) (Opd.tmp _ _ rfl) rfl (by first | rfl | simp) rfl (by first | rfl | simp) rfl rfl tB tB) ?_ | refine Run.eff (dd := some 54) rfl rfl (op_append rfl (Opd.tmp _ _ rfl) (by first | exact Opd.tmp _ _ rfl | exact Opd.nil _ _ (Opd.tmp _ _ rfl)) rfl (by first | rfl | simp) rfl rfl tB tB) ?_
        first | refine Run.pure (dd := some 55) rfl rfl (op_fld_ptr (by decide) rfl (Opd.tmp _ _ rfl)) ?_ | refine Run.pure (dd := some 55) rfl rfl (op_fld_fz (by decide) rfl (Opd.tmp _ _ rfl) tR) ?_
        first | refine Run.eff (dd := none) rfl rfl (op_store_flat rfl (Opd.tmp _ _ rfl) (Opd.tmp _ _ rfl) tC rfl rfl (by first | rfl | assumption) tS) ?_ | refine Run.eff (dd := none) rfl rfl (op_store_refs rfl (Opd.tmp _ _ rfl) (Opd.tmp _ _ rfl) tP rfl rfl rfl tS) ?_
        refine Run.nil (FinR.mk ?_)
        refine nK ?_
        refine s_reg rfl ?_
        first | refine Run.pure (dd := some 20) rfl rfl (op_move rfl (Opd.tmp _ _ rfl)) ?_ | refine Run.pure (dd := some 20) rfl rfl (op_junk (.inl rfl)) ?_
        refine Run.pure (dd := some 21) rfl rfl (op_add rfl (Opd.tmp _ _ rfl) (Opd.const _) tI) ?_
        first | refine Run.pure (dd := some 8) rfl rfl (op_assign rfl (Opd.tmp _ _ rfl)) ?_ | refine Run.pure (dd := some 8) rfl rfl (op_junk (.inr rfl)) ?_
        refine Run.nil (FinR.mk ?_)
        refine nK ?_
        refine Next.weak [0, 1, 2, 5] [] (by rfl) (keeps0 hC _) (by repeat (first | exact trivial | refine ⟨⟨_, rfl, .inl ⟨rfl, rfl⟩⟩, ?_⟩ | refine ⟨⟨_, rfl, .inl ⟨slEq rfl tN, rfl⟩⟩, ?_⟩ | refine ⟨⟨_, rfl, .inl ⟨ivEq tX, rfl⟩⟩, ?_⟩)) (by exact ⟨ent_same rfl rfl rfl tL, ⟨ent_same rfl rfl rfl tL, ⟨ent_same rfl rfl rfl tL, ⟨ent_same rfl rfl rfl tL, trivial⟩⟩⟩⟩) (fun _ h => by simp at h) hK1
      · have hne : pC a b e = true := by simpa only [Bool.not_eq_false'] using hb
        rw [hne, cond_true, List.append_nil] at hK1
        refine nK ?_
        refine s_reg rfl ?_
        first | refine Run.pure (dd := some 20) rfl rfl (op_move rfl (Opd.tmp _ _ rfl)) ?_ | refine Run.pure (dd := some 20) rfl rfl (op_junk (.inl rfl)) ?_
        refine Run.pure (dd := some 21) rfl rfl (op_add rfl (Opd.tmp _ _ rfl) (Opd.const _) tI) ?_
        first | refine Run.pure (dd := some 8) rfl rfl (op_assign rfl (Opd.tmp _ _ rfl)) ?_ | refine Run.pure (dd := some 8) rfl rfl (op_junk (.inr rfl)) ?_
        refine Run.nil (FinR.mk ?_)
        refine nK ?_
        refine Next.weak [0, 1, 2, 3] [] (by rfl) (keeps0 hC _) (by repeat (first | exact trivial | refine ⟨⟨_, rfl, .inl ⟨rfl, rfl⟩⟩, ?_⟩ | refine ⟨⟨_, rfl, .inl ⟨slEq rfl tN, rfl⟩⟩, ?_⟩ | refine ⟨⟨_, rfl, .inl ⟨ivEq tX, rfl⟩⟩, ?_⟩)) (by exact ⟨ent_same rfl rfl rfl tL, ⟨ent_same rfl rfl rfl tL, ⟨ent_same rfl rfl rfl tL, ⟨ent_same rfl rfl rfl tL, trivial⟩⟩⟩⟩) (fun _ h => by simp at h) hK1
    · have hie : i = g.es.length := by simp at hb; omega
      rw [take_len_eq' hie]
      refine Next.weak [1, 2] [3] (by rfl) (keeps0 hC _) (G' := [(6, .ptr 0 3 0 0), (7, .ptr 1 3 0 0)]) (H' := [(0, OG zeroG), (1, OG ⟨g.r, g.n, keepL (pC a b) g.es⟩)]) (by repeat (first | exact trivial | refine ⟨⟨_, rfl, .inl ⟨rfl, rfl⟩⟩, ?_⟩ | refine ⟨⟨_, rfl, .inl ⟨slEq rfl tN, rfl⟩⟩, ?_⟩ | refine ⟨⟨_, rfl, .inl ⟨ivEq tX, rfl⟩⟩, ?_⟩)) (by exact ⟨ent_same rfl rfl rfl tL, ⟨⟨rfl, rfl, .flat _ _ _ rfl tW⟩, trivial⟩⟩) (fun id h => by obtain rfl : id = 3 := (by simpa using h); exact ⟨_, rfl⟩) ?_
      refine nK ?_
      refine s_reg rfl ?_
      first | refine Run.load (dd := some 56) rfl rfl (op_loadw_flat rfl (Opd.tmp _ _ rfl) tH rfl) ?_ | refine Run.pure (dd := some 56) rfl rfl (op_loadw_fz rfl (Opd.tmp _ _ rfl) rfl) ?_ | refine Run.load (dd := some 56) rfl rfl (op_loadn_flat rfl (Opd.tmp _ _ rfl) tH tR tR) ?_ | refine Run.pure (dd := some 56) rfl rfl (op_loadn_fz rfl (Opd.tmp _ _ rfl) tR) ?_ | refine Run.load (dd := some 56) rfl rfl (op_loadn_refs rfl (Opd.tmp _ _ rfl) tH tR tR) ?_
      first | refine Run.eff (dd := none) rfl rfl (op_store_flat rfl (Opd.tmp _ _ rfl) (Opd.tmp _ _ rfl) tC rfl rfl (by first | rfl | assumption) tS) ?_ | refine Run.eff (dd := none) rfl rfl (op_store_refs rfl (Opd.tmp _ _ rfl) (Opd.tmp _ _ rfl) tP rfl rfl rfl tS) ?_
      refine Run.nil (FinR.mk ?_)
      refine nK ?_
      (first | exact s_o1 hC rfl tV | exact s_o2 hC rfl tV tV | exact s_o3 hC rfl tV tV tV | exact s_out0 hC rfl | exact s_outO hC rfl rfl rfl)
end Go.Proofs.Ytdbdajokdipmlaa
/- Stable merging and sorting of lists: no program in sight. -/
namespace Go.Pl
set_option linter.all false
variable {α : Type}
/-- a strict weak order -/
structure SW (lt : α → α → Bool) : Prop where
  asy : ∀ x y, lt x y = true → lt y x = false
  tr : ∀ x y z, lt y x = false → lt z y = false → lt z x = false
def mrg (lt : α → α → Bool) : List α → List α → List α
  | [], B => B
  | x :: A, [] => x :: A
  | x :: A, y :: B => if lt y x = true then y :: mrg lt (x :: A) B else x :: mrg lt A (y :: B)
termination_by A B => A.length + B.length
variable {lt : α → α → Bool}
theorem mrg_nil_left (B : List α) : mrg lt [] B = B := by simp [mrg]
theorem mrg_nil (A : List α) : mrg lt A [] = A := by cases A <;> simp [mrg]
theorem mrg_cut : ∀ (k : Nat) (A1 B1 A2 B2 : List α), A1.length + B1.length ≤ k → (∀ b ∈ B1, ∀ a ∈ A2, lt b a = true) → (∀ a ∈ A1, ∀ b ∈ B2, lt b a = false) →
    mrg lt (A1 ++ A2) (B1 ++ B2) = mrg lt A1 B1 ++ mrg lt A2 B2
  | k, [], [], A2, B2, _, _, _ => by simp [mrg]
  | k, [], y :: B1, A2, B2, hk, h1, h2 => by
    cases A2 with
    | nil => simp [mrg_nil_left]
    | cons x A2 =>
      cases k with
      | zero => simp at hk
      | succ k =>
        have := mrg_cut k [] B1 (x :: A2) B2 (by simp at hk ⊢; omega) (fun b hb => h1 b (by simp [hb])) (fun a ha => by cases ha)
        simp only [List.nil_append, List.cons_append, mrg_nil_left] at this ⊢
        rw [mrg, if_pos (h1 y (by simp) x (by simp)), this]
  | k, x :: A1, [], A2, B2, hk, h1, h2 => by
    cases B2 with
    | nil => simp [mrg_nil]
    | cons y B2 =>
      cases k with
      | zero => simp at hk
      | succ k =>
        have := mrg_cut k A1 [] A2 (y :: B2) (by simp at hk ⊢; omega) (fun b hb => by cases hb) (fun a ha => h2 a (by simp [ha]))
        simp only [List.nil_append, List.cons_append, mrg_nil] at this ⊢
        rw [mrg, if_neg (by rw [h2 x (by simp) y (by simp)]; simp), this]
  | k, x :: A1, y :: B1, A2, B2, hk, h1, h2 => by
    cases k with
    | zero => simp at hk
    | succ k =>
      simp only [List.cons_append]
      rw [mrg, mrg]
      by_cases h : lt y x = true
      · rw [if_pos h, if_pos h]
        have := mrg_cut k (x :: A1) B1 A2 B2 (by simp at hk ⊢; omega) (fun b hb => h1 b (by simp [hb])) h2
        rw [List.cons_append] at this
        rw [this]; rfl
      · rw [if_neg h, if_neg h]
        have := mrg_cut k A1 (y :: B1) A2 B2 (by simp at hk ⊢; omega) h1 (fun a ha => h2 a (by simp [ha]))
        rw [List.cons_append] at this
        rw [this]; rfl
theorem mrg_split {A1 B1 A2 B2 : List α} (h1 : ∀ b ∈ B1, ∀ a ∈ A2, lt b a = true) (h2 : ∀ a ∈ A1, ∀ b ∈ B2, lt b a = false) : mrg lt (A1 ++ A2) (B1 ++ B2) = mrg lt A1 B1 ++ mrg lt A2 B2 := mrg_cut _ A1 B1 A2 B2 (Nat.le_refl _) h1 h2
theorem mrg_left {x : α} {B1 B2 : List α} (h1 : ∀ b ∈ B1, lt b x = true) (h2 : ∀ b ∈ B2, lt b x = false) : mrg lt [x] (B1 ++ B2) = B1 ++ x :: B2 := by
  have e1 := mrg_split (lt := lt) (A1 := []) (A2 := [x]) (B1 := B1) (B2 := B2) (fun b hb a ha => by rw [List.mem_singleton.1 ha]; exact h1 b hb) (fun a ha => by cases ha)
  have e2 := mrg_split (lt := lt) (A1 := [x]) (A2 := []) (B1 := []) (B2 := B2) (fun b hb => by cases hb) (fun a ha b hb => by rw [List.mem_singleton.1 ha]; exact h2 b hb)
  simp only [List.nil_append, List.append_nil, mrg_nil_left, mrg_nil] at e1 e2
  rw [e1, e2]; rfl
theorem mrg_right {y : α} {A1 A2 : List α} (h1 : ∀ a ∈ A1, lt y a = false) (h2 : ∀ a ∈ A2, lt y a = true) : mrg lt (A1 ++ A2) [y] = A1 ++ y :: A2 := by
  have e1 := mrg_split (lt := lt) (A1 := A1) (A2 := A2) (B1 := []) (B2 := [y]) (fun b hb => by cases hb) (fun a ha b hb => by rw [List.mem_singleton.1 hb]; exact h1 a ha)
  have e2 := mrg_split (lt := lt) (A1 := []) (A2 := A2) (B1 := [y]) (B2 := []) (fun b hb a ha => by rw [List.mem_singleton.1 hb]; exact h2 a ha) (fun a ha => by cases ha)
  simp only [List.nil_append, List.append_nil, mrg_nil_left, mrg_nil] at e1 e2
  rw [e1, e2]; rfl
theorem mrg_mem : ∀ (k : Nat) (A B : List α), A.length + B.length ≤ k → ∀ x, x ∈ mrg lt A B ↔ x ∈ A ∨ x ∈ B
  | k, [], B, _, x => by simp [mrg_nil_left]
  | k, a :: A, [], _, x => by simp [mrg_nil]
  | 0, a :: A, b :: B, h, x => by simp at h
  | k + 1, a :: A, b :: B, h, x => by
    rw [mrg]
    split
    · rw [List.mem_cons, mrg_mem k (a :: A) B (by simp at h ⊢; omega)]
      simp; constructor
      · rintro (h | (h | h) | h) <;> simp [h]
      · rintro ((h | h) | h | h) <;> simp [h]
    · rw [List.mem_cons, mrg_mem k A (b :: B) (by simp at h ⊢; omega)]
      simp; constructor
      · rintro (h | h | h | h) <;> simp [h]
      · rintro ((h | h) | h | h) <;> simp [h]
theorem mrg_len : ∀ (k : Nat) (A B : List α), A.length + B.length ≤ k → (mrg lt A B).length = A.length + B.length
  | k, [], B, _ => by simp [mrg_nil_left]
  | k, a :: A, [], _ => by simp [mrg_nil]
  | 0, a :: A, b :: B, h => by simp at h
  | k + 1, a :: A, b :: B, h => by
    rw [mrg]
    split
    · rw [List.length_cons, mrg_len k (a :: A) B (by simp at h ⊢; omega)]; simp; omega
    · rw [List.length_cons, mrg_len k A (b :: B) (by simp at h ⊢; omega)]; simp; omega
abbrev Srt (lt : α → α → Bool) (l : List α) : Prop := l.Pairwise fun x y => lt y x = false
theorem mrg_srt (o : SW lt) : ∀ (k : Nat) (A B : List α), A.length + B.length ≤ k → Srt lt A → Srt lt B → Srt lt (mrg lt A B)
  | k, [], B, _, _, h => by rw [mrg_nil_left]; exact h
  | k, a :: A, [], _, h, _ => by rw [mrg_nil]; exact h
  | 0, a :: A, b :: B, h, _, _ => by simp at h
  | k + 1, a :: A, b :: B, h, hA, hB => by
    obtain ⟨a1, a2⟩ := List.pairwise_cons.1 hA
    obtain ⟨b1, b2⟩ := List.pairwise_cons.1 hB
    rw [mrg]
    split
    · rename_i hlt
      refine List.pairwise_cons.2 ⟨fun x hx => ?_, mrg_srt o k (a :: A) B (by simp at h ⊢; omega) hA b2⟩
      rcases (mrg_mem _ _ _ (Nat.le_refl _) x).1 hx with hx | hx
      · rcases List.mem_cons.1 hx with rfl | hx
        · exact o.asy _ _ hlt
        · exact o.tr b a x (o.asy _ _ hlt) (a1 x hx)
      · exact b1 x hx
    · rename_i hlt
      have hlt' : lt b a = false := by simpa using hlt
      refine List.pairwise_cons.2 ⟨fun x hx => ?_, mrg_srt o k A (b :: B) (by simp at h ⊢; omega) a2 hB⟩
      rcases (mrg_mem _ _ _ (Nat.le_refl _) x).1 hx with hx | hx
      · exact a1 x hx
      · rcases List.mem_cons.1 hx with rfl | hx
        · exact hlt'
        · exact o.tr a b x hlt' (b1 x hx)
/-- a sorted list, parted by what stands behind y -/
theorem srt_part (o : SW lt) (y : α) : ∀ {l : List α}, Srt lt l → ∃ l1 l2, l = l1 ++ l2 ∧ (∀ x ∈ l1, lt y x = false) ∧ ∀ x ∈ l2, lt y x = true
  | [], _ => ⟨[], [], rfl, by simp, by simp⟩
  | x :: l, h => by
    obtain ⟨h1, h2⟩ := List.pairwise_cons.1 h
    by_cases hx : lt y x = true
    · refine ⟨[], x :: l, rfl, by simp, fun z hz => ?_⟩
      rcases List.mem_cons.1 hz with rfl | hz
      · exact hx
      · cases hc : lt y z with
        | true => rfl
        | false =>
          have := o.tr x z y (h1 z hz) hc
          rw [hx] at this; cases this
    · obtain ⟨l1, l2, e, h3, h4⟩ := srt_part o y h2
      refine ⟨x :: l1, l2, by rw [e]; rfl, fun z hz => ?_, h4⟩
      rcases List.mem_cons.1 hz with rfl | hz
      · simpa using hx
      · exact h3 z hz
theorem lt_of {o : SW lt} {b y a : α} (h1 : lt y b = false) (h2 : lt y a = true) : lt b a = true := by
  cases hc : lt b a with
  | true => rfl
  | false =>
    have := o.tr a b y hc h1
    rw [h2] at this; cases this
theorem mrg_assoc1 (o : SW lt) {A B : List α} (hA : Srt lt A) (hB : Srt lt B) (y : α) : mrg lt (mrg lt A B) [y] = mrg lt A (mrg lt B [y]) := by
  obtain ⟨A1, A2, rfl, a1, a2⟩ := srt_part o y hA
  obtain ⟨B1, B2, rfl, b1, b2⟩ := srt_part o y hB
  have e1 : mrg lt (A1 ++ A2) (B1 ++ B2) = mrg lt A1 B1 ++ mrg lt A2 B2 := mrg_split (fun b hb a ha => lt_of (o := o) (b1 b hb) (a2 a ha)) (fun a ha b hb => o.asy _ _ (lt_of (o := o) (a1 a ha) (b2 b hb)))
  rw [e1, mrg_right (fun x hx => ?_) (fun x hx => ?_), mrg_right b1 b2]
  · have e2 : mrg lt (A1 ++ A2) (B1 ++ y :: B2) = mrg lt A1 B1 ++ mrg lt A2 (y :: B2) := mrg_split (fun b hb a ha => lt_of (o := o) (b1 b hb) (a2 a ha)) (fun a ha b hb => by
      rcases List.mem_cons.1 hb with rfl | hb
      · exact a1 a ha
      · exact o.asy _ _ (lt_of (o := o) (a1 a ha) (b2 b hb)))
    have e3 := mrg_split (lt := lt) (A1 := []) (A2 := A2) (B1 := [y]) (B2 := B2) (fun b hb a ha => by rw [List.mem_singleton.1 hb]; exact a2 a ha) (fun a ha => by cases ha)
    simp only [List.nil_append, mrg_nil_left] at e3
    rw [e2, show y :: B2 = [y] ++ B2 from rfl, e3]; rfl
  · rcases (mrg_mem _ _ _ (Nat.le_refl _) x).1 hx with h | h
    · exact a1 x h
    · exact b1 x h
  · rcases (mrg_mem _ _ _ (Nat.le_refl _) x).1 hx with h | h
    · exact a2 x h
    · exact b2 x h
/-- the stable sort: one after the other, behind all that do not stand behind it -/
def srtS (lt : α → α → Bool) (l : List α) : List α := l.foldl (fun acc y => mrg lt acc [y]) []
theorem srtS_snoc (l : List α) (y : α) : srtS lt (l ++ [y]) = mrg lt (srtS lt l) [y] := by unfold srtS; rw [List.foldl_append]; rfl
theorem rev_ind {P : List α → Prop} (h0 : P []) (h1 : ∀ l y, P l → P (l ++ [y])) : ∀ l, P l := fun l => by
  have : ∀ (k : Nat) (l : List α), l.length = k → P l := fun k => by
    induction k with
    | zero => intro l h; rw [List.length_eq_zero_iff.1 h]; exact h0
    | succ k ih =>
      intro l h
      have hne : l ≠ [] := fun e => by rw [e] at h; cases h
      rw [← List.dropLast_concat_getLast hne]
      exact h1 _ _ (ih _ (by rw [List.length_dropLast, h]; rfl))
  exact this _ l rfl
theorem srtS_srt (o : SW lt) : ∀ l, Srt lt (srtS lt l) := rev_ind List.Pairwise.nil fun l y ih => by
  rw [srtS_snoc]; exact mrg_srt o _ _ _ (Nat.le_refl _) ih (by simp)
theorem srtS_len : ∀ l : List α, (srtS lt l).length = l.length := rev_ind rfl fun l y ih => by
  rw [srtS_snoc, mrg_len _ _ _ (Nat.le_refl _), ih]; simp
theorem srtS_app (o : SW lt) (X : List α) : ∀ Y, srtS lt (X ++ Y) = mrg lt (srtS lt X) (srtS lt Y) := rev_ind (by simp [srtS, mrg_nil]) fun l y ih => by
  rw [← List.append_assoc, srtS_snoc, ih, srtS_snoc, mrg_assoc1 o (srtS_srt o _) (srtS_srt o _)]
end Go.Pl
/- Symmetric merging: where both lists are cut; one element merged by a search. -/
namespace Go.Pl
set_option linter.all false
variable {α : Type} {lt : α → α → Bool}
theorem SW.rf (o : SW lt) (x : α) : lt x x = false := by
  cases h : lt x x with
  | false => rfl
  | true => rw [o.asy x x h] at h; cases h
theorem srt_le (o : SW lt) {l : List α} (h : Srt lt l) {i j : Nat} (hj : j < l.length) (hij : i ≤ j) : lt l[j] (l[i]'(by omega)) = false := by
  rcases Nat.lt_or_ge i j with h1 | h1
  · exact List.pairwise_iff_getElem.1 h i j (by omega) hj h1
  · have : i = j := by omega
    subst this; exact o.rf _
theorem SW.tr2 (o : SW lt) {x y z : α} (h1 : lt y x = false) (h2 : lt y z = true) : lt x z = true := by
  cases hc : lt x z with
  | true => rfl
  | false =>
    have := o.tr z x y hc h1
    rw [h2] at this; cases this
theorem SW.tr3 (o : SW lt) {x y z : α} (h1 : lt x y = true) (h2 : lt z y = false) : lt x z = true := by
  cases hc : lt x z with
  | true => rfl
  | false =>
    have := o.tr y z x h2 hc
    rw [h1] at this; cases this
theorem sym_cut (o : SW lt) {A B : List α} (hA : Srt lt A) (hB : Srt lt B) {S T : Nat} (hS : S ≤ A.length) (hT : T ≤ B.length)
    (h1 : ∀ (k1 : 0 < S) (k2 : T < B.length), lt B[T] (A[S - 1]'(by omega)) = false) (h2 : ∀ (k1 : S < A.length) (k2 : 0 < T), lt (B[T - 1]'(by omega)) A[S] = true) :
    mrg lt A B = mrg lt (A.take S) (B.take T) ++ mrg lt (A.drop S) (B.drop T) := by
  rw [← mrg_split (fun b hb a ha => ?_) (fun a ha b hb => ?_), List.take_append_drop, List.take_append_drop]
  · obtain ⟨j, hj, rfl⟩ := List.mem_iff_getElem.1 hb
    obtain ⟨i, hi, rfl⟩ := List.mem_iff_getElem.1 ha
    rw [List.length_take] at hj
    rw [List.length_drop] at hi
    rw [List.getElem_take, List.getElem_drop]
    have e1 := srt_le o hB (i := j) (j := T - 1) (by omega) (by omega)
    have e2 := h2 (by omega) (by omega)
    have e3 := srt_le o hA (i := S) (j := S + i) (by omega) (by omega)
    exact o.tr3 (o.tr2 e1 e2) e3
  · obtain ⟨j, hj, rfl⟩ := List.mem_iff_getElem.1 hb
    obtain ⟨i, hi, rfl⟩ := List.mem_iff_getElem.1 ha
    rw [List.length_take] at hi
    rw [List.length_drop] at hj
    rw [List.getElem_take, List.getElem_drop]
    have e1 := srt_le o hA (i := i) (j := S - 1) (by omega) (by omega)
    have e2 := h1 (by omega) (by omega)
    have e3 := srt_le o hB (i := T) (j := T + j) (by omega) (by omega)
    exact o.tr _ _ _ (o.tr _ _ _ e1 e2) e3
theorem one_left (o : SW lt) {x : α} {B : List α} (hB : Srt lt B) {T : Nat} (hT : T ≤ B.length) (h1 : ∀ (k : 0 < T), lt (B[T - 1]'(by omega)) x = true) (h2 : ∀ (k : T < B.length), lt B[T] x = false) :
    mrg lt [x] B = B.take T ++ x :: B.drop T := by
  have := mrg_left (lt := lt) (x := x) (B1 := B.take T) (B2 := B.drop T) (fun b hb => ?_) (fun b hb => ?_)
  · rwa [List.take_append_drop] at this
  · obtain ⟨j, hj, rfl⟩ := List.mem_iff_getElem.1 hb
    rw [List.length_take] at hj
    rw [List.getElem_take]
    exact o.tr2 (srt_le o hB (i := j) (j := T - 1) (by omega) (by omega)) (h1 (by omega))
  · obtain ⟨j, hj, rfl⟩ := List.mem_iff_getElem.1 hb
    rw [List.length_drop] at hj
    rw [List.getElem_drop]
    exact o.tr _ _ _ (h2 (by omega)) (srt_le o hB (i := T) (j := T + j) (by omega) (by omega))
theorem one_right (o : SW lt) {y : α} {A : List α} (hA : Srt lt A) {S : Nat} (hS : S ≤ A.length) (h1 : ∀ (k : 0 < S), lt y (A[S - 1]'(by omega)) = false) (h2 : ∀ (k : S < A.length), lt y A[S] = true) :
    mrg lt A [y] = A.take S ++ y :: A.drop S := by
  have := mrg_right (lt := lt) (y := y) (A1 := A.take S) (A2 := A.drop S) (fun a ha => ?_) (fun a ha => ?_)
  · rwa [List.take_append_drop] at this
  · obtain ⟨i, hi, rfl⟩ := List.mem_iff_getElem.1 ha
    rw [List.length_take] at hi
    rw [List.getElem_take]
    exact o.tr _ _ _ (srt_le o hA (i := i) (j := S - 1) (by omega) (by omega)) (h1 (by omega))
  · obtain ⟨i, hi, rfl⟩ := List.mem_iff_getElem.1 ha
    rw [List.length_drop] at hi
    rw [List.getElem_drop]
    exact o.tr3 (h2 (by omega)) (srt_le o hA (i := S) (j := S + i) (by omega) (by omega))
/- exchanging -/
theorem set_at_len {P R : List α} {u v : α} : (P ++ u :: R).set P.length v = P ++ v :: R := by
  rw [List.set_append_right _ _ (Nat.le_refl _)]; simp
theorem swap_two (P M R : List α) (u v : α) : ((P ++ u :: (M ++ v :: R)).set P.length v).set (P.length + 1 + M.length) u = P ++ v :: (M ++ u :: R) := by
  rw [set_at_len]
  have e : P ++ v :: (M ++ v :: R) = (P ++ v :: M) ++ v :: R := by simp
  rw [e, show P.length + 1 + M.length = (P ++ v :: M).length by simp; omega, set_at_len]
  simp
theorem get_at_len {P R : List α} {u : α} : (P ++ u :: R)[P.length]? = some u := by
  rw [List.getElem?_append_right (Nat.le_refl _)]; simp
end Go.Pl
/- Exchanging two ranges, one pair after the other. -/
namespace Go.Pl
set_option linter.all false
variable {α : Type}
def swI (P U M V R : List α) (i : Nat) : List α := P ++ V.take i ++ (U.drop i ++ (M ++ U.take i ++ (V.drop i ++ R)))
theorem swI_0 (P U M V R : List α) : swI P U M V R 0 = P ++ (U ++ (M ++ (V ++ R))) := by simp [swI]
theorem swI_n {P U M V R : List α} (h : U.length = V.length) : swI P U M V R U.length = P ++ (V ++ (M ++ (U ++ R))) := by
  have : V.take U.length = V := by rw [h]; exact List.take_length
  have h2 : V.drop U.length = [] := by rw [h]; exact List.drop_length
  simp [swI, this, h2, List.drop_length]
theorem swI_form {P U M V R : List α} {i : Nat} (hu : i < U.length) (hv : i < V.length) : swI P U M V R i = (P ++ V.take i) ++ U[i] :: ((U.drop (i + 1) ++ M ++ U.take i) ++ V[i] :: (V.drop (i + 1) ++ R)) := by
  unfold swI
  rw [List.drop_eq_getElem_cons hu, List.drop_eq_getElem_cons hv]
  simp only [List.append_assoc, List.cons_append]
theorem swI_step {P U M V R : List α} {i : Nat} (hu : i < U.length) (hv : i < V.length) :
    ((swI P U M V R i).set (P.length + i) V[i]).set (P.length + U.length + M.length + i) U[i] = swI P U M V R (i + 1) := by
  rw [swI_form hu hv]
  have h := swap_two (P ++ V.take i) (U.drop (i + 1) ++ M ++ U.take i) (V.drop (i + 1) ++ R) U[i] V[i]
  rw [show (P ++ V.take i).length = P.length + i by simp; omega] at h
  rw [show P.length + i + 1 + (U.drop (i + 1) ++ M ++ U.take i).length = P.length + U.length + M.length + i by simp; omega] at h
  rw [h]
  unfold swI
  rw [List.take_succ_eq_append_getElem hu, List.take_succ_eq_append_getElem hv]
  simp only [List.append_assoc, List.cons_append, List.nil_append]
theorem swI_u {P U M V R : List α} {i : Nat} (hu : i < U.length) (hv : i < V.length) : (swI P U M V R i)[P.length + i]? = some U[i] := by
  rw [swI_form hu hv]
  have := get_at_len (P := P ++ V.take i) (R := (U.drop (i + 1) ++ M ++ U.take i) ++ V[i] :: (V.drop (i + 1) ++ R)) (u := U[i])
  rwa [show (P ++ V.take i).length = P.length + i by simp; omega] at this
theorem swI_v {P U M V R : List α} {i : Nat} (hu : i < U.length) (hv : i < V.length) : (swI P U M V R i)[P.length + U.length + M.length + i]? = some V[i] := by
  rw [swI_form hu hv]
  have e : (P ++ V.take i) ++ U[i] :: ((U.drop (i + 1) ++ M ++ U.take i) ++ V[i] :: (V.drop (i + 1) ++ R)) = ((P ++ V.take i) ++ U[i] :: (U.drop (i + 1) ++ M ++ U.take i)) ++ V[i] :: (V.drop (i + 1) ++ R) := by simp
  rw [e]
  have := get_at_len (P := (P ++ V.take i) ++ U[i] :: (U.drop (i + 1) ++ M ++ U.take i)) (R := V.drop (i + 1) ++ R) (u := V[i])
  rwa [show ((P ++ V.take i) ++ U[i] :: (U.drop (i + 1) ++ M ++ U.take i)).length = P.length + U.length + M.length + i by simp; omega] at this
theorem swI_len (P U M V R : List α) (i : Nat) (h : U.length = V.length) : (swI P U M V R i).length = P.length + U.length + M.length + V.length + R.length := by
  simp [swI]; omega
end Go.Pl
/- Blocks: every full block of a list in its stable order; insertion from the right. -/
namespace Go.Pl
set_option linter.all false
variable {α : Type}
abbrev ltS (c : α → α → Int) (x y : α) : Bool := decide (c x y < 0)
def bsF (lt : α → α → Bool) (w : Nat) : Nat → List α → List α
  | 0, l => srtS lt l
  | k + 1, l => if l.length ≤ w then srtS lt l else srtS lt (l.take w) ++ bsF lt w k (l.drop w)
def bsL (lt : α → α → Bool) (w : Nat) (l : List α) : List α := bsF lt w l.length l
variable {lt : α → α → Bool}
theorem bsF_more (w : Nat) (hw : 0 < w) : ∀ (k k' : Nat) (l : List α), l.length ≤ k → l.length ≤ k' → bsF lt w k l = bsF lt w k' l
  | 0, 0, l, _, _ => rfl
  | 0, k' + 1, l, h, _ => by
    have : l = [] := List.length_eq_zero_iff.1 (by omega)
    subst this; simp [bsF]
  | k + 1, 0, l, _, h => by
    have : l = [] := List.length_eq_zero_iff.1 (by omega)
    subst this; simp [bsF]
  | k + 1, k' + 1, l, h, h' => by
    simp only [bsF]
    split
    · rfl
    · rw [bsF_more w hw k k' (l.drop w) (by simp; omega) (by simp; omega)]
theorem bsL_small {w : Nat} {l : List α} (h : l.length ≤ w) : bsL lt w l = srtS lt l := by
  unfold bsL
  cases hl : l.length with
  | zero => rfl
  | succ k => simp only [bsF]; rw [if_pos h]
theorem bsL_cut {w : Nat} {l : List α} (hw : 0 < w) (h : w ≤ l.length) : bsL lt w l = srtS lt (l.take w) ++ bsL lt w (l.drop w) := by
  rcases Nat.lt_or_ge w l.length with h1 | h1
  · unfold bsL
    cases hl : l.length with
    | zero => omega
    | succ k =>
      simp only [bsF]
      rw [if_neg (by omega)]
      congr 1
      exact bsF_more w hw _ _ _ (by simp; omega) (by simp)
  · have e : l.length = w := by omega
    rw [bsL_small (by omega), List.take_of_length_le (by omega), List.drop_eq_nil_of_le (by omega), bsL_small (by simp)]
    simp [srtS]
theorem bsL_len (w : Nat) (hw : 0 < w) : ∀ (k : Nat) (l : List α), l.length ≤ k → (bsL lt w l).length = l.length
  | 0, l, h => by
    have : l = [] := List.length_eq_zero_iff.1 (by omega)
    subst this; rfl
  | k + 1, l, h => by
    rcases (by omega : l.length ≤ w ∨ w < l.length) with h1 | h1
    · rw [bsL_small h1, srtS_len]
    · rw [bsL_cut hw (by omega), List.length_append, srtS_len, bsL_len w hw k _ (by simp; omega)]; simp; omega
theorem bsL_two (o : SW lt) {w : Nat} {l : List α} (hw : 0 < w) (h : 2 * w ≤ l.length) :
    bsL lt w l = srtS lt (l.take w) ++ (srtS lt ((l.drop w).take w) ++ bsL lt w (l.drop (2 * w))) ∧ bsL lt (2 * w) l = mrg lt (srtS lt (l.take w)) (srtS lt ((l.drop w).take w)) ++ bsL lt (2 * w) (l.drop (2 * w)) := by
  constructor
  · rw [bsL_cut hw (by omega), bsL_cut (l := l.drop w) hw (by simp; omega), List.drop_drop, show w + w = 2 * w by omega]
  · rw [bsL_cut (by omega) h, ← srtS_app o]
    congr 2
    rw [show 2 * w = w + w by omega, List.take_add]
theorem bsL_last (o : SW lt) {w : Nat} {l : List α} (hw : 0 < w) (h : w < l.length) (h2 : l.length < 2 * w) :
    bsL lt w l = srtS lt (l.take w) ++ srtS lt (l.drop w) ∧ bsL lt (2 * w) l = mrg lt (srtS lt (l.take w)) (srtS lt (l.drop w)) := by
  constructor
  · rw [bsL_cut hw (by omega), bsL_small (l := l.drop w) (by simp; omega)]
  · rw [bsL_small (by omega), ← srtS_app o, List.take_append_drop]
/-- one step of an insertion: x goes ahead of the last of those that stand ahead of it -/
theorem ins_step {S R : List α} {x : α} {X : List α} {k : Nat} (hk : 0 < k) (hk2 : k ≤ S.length) :
    ((X ++ (S.take k ++ x :: (S.drop k ++ R))).set (X.length + k) (S[k - 1]'(by omega))).set (X.length + (k - 1)) x = X ++ (S.take (k - 1) ++ x :: (S.drop (k - 1) ++ R)) := by
  have e1 : S.take k = S.take (k - 1) ++ [S[k - 1]'(by omega)] := by
    have := List.take_succ_eq_append_getElem (l := S) (i := k - 1) (by omega)
    rwa [show k - 1 + 1 = k by omega] at this
  have e2 : S.drop (k - 1) = (S[k - 1]'(by omega)) :: S.drop k := by
    have := List.drop_eq_getElem_cons (l := S) (i := k - 1) (by omega)
    rwa [show k - 1 + 1 = k by omega] at this
  have e3 : (X ++ S.take (k - 1)).length = X.length + (k - 1) := by simp; omega
  rw [List.set_comm _ _ (by omega)]
  have h := swap_two (X ++ S.take (k - 1)) [] (S.drop k ++ R) (S[k - 1]'(by omega)) x
  rw [e3] at h
  simp only [List.nil_append, List.length_nil, Nat.add_zero] at h
  rw [show X.length + (k - 1) + 1 = X.length + k by omega] at h
  rw [e1, e2]
  simp only [List.append_assoc, List.cons_append, List.nil_append] at h ⊢
  exact h
theorem ins_prev {S R : List α} {x : α} {X : List α} {k : Nat} (hk : 0 < k) (hk2 : k ≤ S.length) : (X ++ (S.take k ++ x :: (S.drop k ++ R)))[X.length + (k - 1)]? = some (S[k - 1]'(by omega)) := by
  rw [List.getElem?_append_right (by omega), List.getElem?_append_left (by simp; omega), List.getElem?_take_of_lt (by omega)]
  rw [show X.length + (k - 1) - X.length = k - 1 by omega]
  exact List.getElem?_eq_getElem _
theorem ins_at {S R : List α} {x : α} {X : List α} {k : Nat} (hk2 : k ≤ S.length) : (X ++ (S.take k ++ x :: (S.drop k ++ R)))[X.length + k]? = some x := by
  have := get_at_len (P := X ++ S.take k) (R := S.drop k ++ R) (u := x)
  rw [show (X ++ S.take k).length = X.length + k by simp; omega] at this
  simpa using this
/-- the other way: x goes behind the first of those that stand behind it -/
theorem ins_fwd {S R : List α} {x : α} {X : List α} {k : Nat} (hk : k < S.length) :
    ((X ++ (S.take k ++ x :: (S.drop k ++ R))).set (X.length + k) S[k]).set (X.length + (k + 1)) x = X ++ (S.take (k + 1) ++ x :: (S.drop (k + 1) ++ R)) := by
  have e3 : (X ++ S.take k).length = X.length + k := by simp; omega
  have h := swap_two (X ++ S.take k) [] (S.drop (k + 1) ++ R) x S[k]
  rw [e3] at h
  simp only [List.nil_append, List.length_nil, Nat.add_zero] at h
  rw [List.take_succ_eq_append_getElem hk, List.drop_eq_getElem_cons hk]
  simp only [List.append_assoc, List.cons_append, List.nil_append] at h ⊢
  exact h
theorem ins_next {S R : List α} {x : α} {X : List α} {k : Nat} (hk : k < S.length) : (X ++ (S.take k ++ x :: (S.drop k ++ R)))[X.length + (k + 1)]? = some S[k] := by
  have := get_at_len (P := X ++ (S.take k ++ [x])) (R := S.drop (k + 1) ++ R) (u := S[k])
  rw [show (X ++ (S.take k ++ [x])).length = X.length + (k + 1) by simp; omega] at this
  rw [List.drop_eq_getElem_cons hk]
  simp only [List.append_assoc, List.cons_append, List.nil_append] at this ⊢
  exact this
end Go.Pl
/- The engine, part 33: a region that draws, where only the order of its effects is gone through. -/
namespace Go.RT
section
variable {P : Program} {ops : Array Oper} {N : Nat} {C : Cx} {Q : Exit → Act → World → Prop}
/-- what is asked of the region: no guards; slots written once; who reads a slot waits for it; edges lead back -/
def yOK (ops : Array Oper) (N : Nat) : Bool :=
  (List.range ops.size).all fun i => match ops[i]? with
    | none => true
    | some o => o.guard.isNone && (match o.dst with | some d => decide (d < N) | none => true) && (o.after.all fun e => !Region.binds .any e || decide (e.on < i)) &&
      (List.range ops.size).all fun j => match ops[j]? with
        | none => true
        | some oj => match oj.dst with
          | none => true
          | some d => (!decide (o.dst = some d) || decide (j = i)) && (!(opTmps o).contains d || o.after.any fun e => Region.binds .any e && decide (e.on = j))
structure YOk (ops : Array Oper) (N : Nat) : Prop where
  grd : ∀ (i : Nat) (o : Oper), ops[i]? = some o → o.guard = none
  dst : ∀ (i : Nat) (o : Oper) (d : Tmp), ops[i]? = some o → o.dst = some d → d < N
  back : ∀ (i : Nat) (o : Oper) (e : Edge), ops[i]? = some o → e ∈ o.after → Region.binds .any e = true → e.on < i
  once : ∀ (i j : Nat) (d : Tmp), dstOf ops i = some d → dstOf ops j = some d → i = j
  read : ∀ (i j : Nat) (o : Oper) (d : Tmp), ops[i]? = some o → dstOf ops j = some d → d ∈ opTmps o → ∃ e ∈ o.after, Region.binds .any e = true ∧ e.on = j
theorem yOK_spec (h : yOK ops N = true) : YOk ops N := by
  have hj : ∀ j o, ops[j]? = some o → _ := fun j o ho => by
    have := List.all_eq_true.1 h j (List.mem_range.2 (Array.getElem?_eq_some_iff.1 ho).1)
    rw [ho] at this
    exact this
  simp only [Bool.and_eq_true, Array.all_eq_true_iff_forall_mem, Bool.or_eq_true, Bool.not_eq_true', decide_eq_true_eq, decide_eq_false_iff_not, List.all_eq_true, List.mem_range] at hj
  have hd : ∀ {j : Nat} {d : Tmp}, dstOf ops j = some d → ∃ oj, ops[j]? = some oj ∧ oj.dst = some d ∧ j < ops.size := fun {j d} h => by
    unfold dstOf at h
    obtain ⟨oj, h1, h2⟩ := Option.bind_eq_some_iff.1 h
    exact ⟨oj, h1, h2, (Array.getElem?_eq_some_iff.1 h1).1⟩
  refine ⟨fun j o ho => ?_, fun j o d ho hd => ?_, fun j o e ho he hb => ?_, fun i j d h1 h2 => ?_, fun i j o d ho h1 h2 => ?_⟩
  · exact Option.isNone_iff_eq_none.1 (hj j o ho).1.1.1
  · have := (hj j o ho).1.1.2
    rw [hd] at this
    simpa using this
  · rcases (hj j o ho).1.2 e he with h | h
    · rw [hb] at h; cases h
    · exact h
  · obtain ⟨oi, a1, a2, a3⟩ := hd h1
    obtain ⟨oj, b1, b2, b3⟩ := hd h2
    have := (hj i oi a1).2 j b3
    rw [b1] at this
    simp only [b2, Bool.and_eq_true, Bool.or_eq_true, Bool.not_eq_true', decide_eq_false_iff_not, decide_eq_true_eq] at this
    rcases this.1 with h | h
    · exact absurd a2 h
    · exact h.symm
  · obtain ⟨oj, b1, b2, b3⟩ := hd h1
    have := (hj i o ho).2 j b3
    rw [b1] at this
    simp only [b2, Bool.and_eq_true, Bool.or_eq_true, Bool.not_eq_true', decide_eq_false_iff_not, decide_eq_true_eq] at this
    rcases this.2 with h | h
    · exact absurd h2 (by simpa using h)
    · rw [Array.any_eq_true'] at h
      obtain ⟨e, he, hb⟩ := h
      simp only [Bool.and_eq_true, decide_eq_true_eq] at hb
      exact ⟨e, he, hb⟩
/-- a pure operation that may be done at any time from now on -/
def Virt (P : Program) (ops : Array Oper) (Y : Array Bool) (G : Env) (i : Nat) : Prop :=
  ∃ o p, ops[i]? = some o ∧ (∀ H nx, OpS P o true G H nx p H nx) ∧ (∀ d, o.dst = some d → look G d = some p) ∧ ∀ t ∈ opTmps o, ∀ j, dstOf ops j = some t → Y.getD j false = true
/-- the operations Y are done, or can be done at any time -/
def AnyY (P : Program) (ops : Array Oper) (N : Nat) (C : Cx) (Q : Exit → Act → World → Prop) (Y : Array Bool) (G : Env) (H : Hp) (nx : Nat) : Prop :=
  ∀ fuel X a w, X.size = ops.size → (∀ i, X.getD i false = true → Y.getD i false = true) → (∀ i, Y.getD i false = true → X.getD i false = false → Virt P ops Y G i) → (X.toList.filter (!·)).length ≤ fuel → a.defers = [] → a.tmps.size = N →
    (∃ S m, Mem C H nx S m w ∧ ∀ t q, look G t = some q → (∀ i, Y.getD i false = true → X.getD i false = false → dstOf ops i ≠ some t) → RepAt w S m a t q) → wpAny P .any ops Q fuel X a w
theorem virt_more {Y : Array Bool} {G : Env} {i j : Nat} {d : Option Tmp} {p : PV} (hj : j < Y.size) (hd : dstOf ops j = d) (hY : Y.getD j false = false) (hG : ∀ t, d = some t → look G t = none) (h : Virt P ops Y G i) : Virt P ops (Y.setIfInBounds j true) (gput G d p) i := by
  obtain ⟨o, q, h1, h2, h3, h4⟩ := h
  have hlk : ∀ t ∈ opTmps o, look (gput G d p) t = look G t := fun t ht => by
    rw [look_gput, if_neg]
    intro e
    have := h4 t ht j (hd.trans e)
    rw [hY] at this; cases this
  refine ⟨o, q, h1, fun H nx => ⟨fun C S m a w hm hg hr => (h2 H nx).run C S m a w hm hg fun t q ht hq => hr t q ht (by rw [hlk t ht]; exact hq)⟩, fun t ht => ?_, fun t ht k hk => ?_⟩
  · rw [look_gput]
    by_cases e : d = some t
    · have := hG t e
      rw [h3 t ht] at this; cases this
    · rw [if_neg e]; exact h3 t ht
  · exact (set_iff hj).2 (.inr (h4 t ht k hk))
theorem AnyY.virt {Y : Array Bool} {G : Env} {H : Hp} {nx : Nat} (hok : yOK ops N = true) (i : Nat) {o : Oper} {p : PV} (ho : ops[i]? = some o) (hp : ∀ H nx, OpS P o true G H nx p H nx) (hs : (Region.ready .any ops Y).contains i = true) (hYs : Y.size = ops.size) (hG : ∀ t, o.dst = some t → look G t = none)
    (h : AnyY P ops N C Q (Y.setIfInBounds i true) (gput G o.dst p) H nx) : AnyY P ops N C Q Y G H nx := by
  have hgd := yOK_spec hok
  have hir : i ∈ Region.ready .any ops Y := by simpa using hs
  obtain ⟨hn0, o', ho', hrd⟩ := mem_ready.1 hir
  rw [ho] at ho'; cases ho'
  have hin : i < ops.size := (Array.getElem?_eq_some_iff.1 ho).1
  have hYi : Y.getD i false = false := by
    have : i < Y.size := by rw [hYs]; exact hin
    simpa [Array.getD, this] using hn0
  have hdi : dstOf ops i = o.dst := by unfold dstOf; rw [ho]; rfl
  intro fuel X a w hX hXY hV hf h1 h2 ⟨S, m, hm, hsl⟩
  have hset := fun j => set_iff (X := Y) (i := i) (j := j) (by rw [hYs]; exact hin)
  refine h fuel X a w hX (fun j hj => (hset j).2 (.inr (hXY j hj))) (fun j hj hx => ?_) hf h1 h2 ⟨S, m, hm, fun t q hq hn => ?_⟩
  · rcases (hset j).1 hj with rfl | hj
    · have hno : ∀ t ∈ opTmps o, look (gput G o.dst p) t = look G t := fun t ht => by
        rw [look_gput, if_neg]
        intro e
        obtain ⟨ed, he, hb, hon⟩ := hgd.read j j o t ho (hdi.trans e) ht
        have := hgd.back j o ed ho he hb
        omega
      refine ⟨o, p, ho, fun H nx => ⟨fun C S m a w hm hg hr => (hp H nx).run C S m a w hm hg fun t q ht hq => hr t q ht (by rw [hno t ht]; exact hq)⟩, fun d hd => by rw [look_gput, if_pos hd], fun t ht k hk => ?_⟩
      obtain ⟨ed, he, hb, hon⟩ := hgd.read j k o t ho hk ht
      have := hrd ed he hb
      rw [hon] at this
      exact (hset k).2 (.inr this)
    · exact virt_more (by rw [hYs]; exact hin) hdi hYi hG (hV j hj hx)
  · rw [look_gput] at hq
    by_cases e : o.dst = some t
    · exact absurd (hdi.trans e) (hn i ((hset i).2 (.inl rfl)) (by
        cases hx : X.getD i false with
        | false => rfl
        | true => rw [hXY i hx] at hYi; cases hYi))
    · rw [if_neg e] at hq
      exact hsl t q hq fun j hj hx => hn j ((hset j).2 (.inr hj)) hx
def StepY (P : Program) (ops : Array Oper) (N : Nat) (C : Cx) (Q : Exit → Act → World → Prop) (Y : Array Bool) (G : Env) (H : Hp) (nx : Nat) (j : Nat) : Prop :=
  ∃ o p H1 nx1, ops[j]? = some o ∧ OpS P o true G H nx p H1 nx1 ∧ (∀ t, o.dst = some t → look G t = none) ∧ AnyY P ops N C Q (Y.setIfInBounds j true) (gput G o.dst p) H1 nx1
theorem filt_set : ∀ (l : List Bool) (i : Nat) (h : i < l.length), l[i] = false → ((l.set i true).filter (!·)).length + 1 ≤ (l.filter (!·)).length := by
  intro l
  induction l with
  | nil => intro i h; simp at h
  | cons b l ih =>
    intro i h hb
    cases i with
    | zero => simp at hb; subst hb; simp
    | succ i =>
      simp only [List.set_cons_succ, List.filter_cons]
      have := ih i (by simpa using h) (by simpa using hb)
      cases b <;> simp <;> omega
theorem some_ready (hgd : YOk ops N) {X : Array Bool} (hX : X.size = ops.size) (hr : Region.ready .any ops X = []) : ∀ i, i < ops.size → X.getD i false = true := by
  intro i
  induction i using Nat.strongRecOn with
  | _ i ih =>
    intro hi
    cases hx : X.getD i false with
    | true => rfl
    | false =>
      have : i ∈ Region.ready .any ops X := mem_ready.2 ⟨by
        have : i < X.size := by omega
        simpa [Array.getD, this] using hx, ops[i], by simp [hi], fun e he hb => by
        have := hgd.back i ops[i] e (by simp [hi]) he hb
        exact ih e.on this (by omega)⟩
      rw [hr] at this; cases this
theorem AnyY.step {Y : Array Bool} {G : Env} {H : Hp} {nx : Nat} {L : List Nat} (hok : yOK ops N = true) (hYs : Y.size = ops.size) (hr : Region.ready .any ops Y = L) (h0 : L = [] → Next C N G H nx (Q .normal)) (h : ∀ j ∈ L, StepY P ops N C Q Y G H nx j) : AnyY P ops N C Q Y G H nx := by
  have hgd := yOK_spec hok
  intro fuel
  induction fuel with
  | zero =>
    intro X a w hX hXY hV hf h1 h2 ⟨S, m, hm, hsl⟩
    have hall : ∀ i, i < ops.size → X.getD i false = true := fun i hi => by
      have hi' : i < X.toList.length := by simpa [hX] using hi
      cases hx : X.getD i false with
      | true => rfl
      | false =>
        have hxi : X.toList[i] = false := by
          have : i < X.size := by omega
          simpa [Array.getD, this] using hx
        have := filt_set X.toList i hi' hxi
        omega
    have hrX : Region.ready .any ops X = [] := List.eq_nil_iff_forall_not_mem.2 fun i hi => by
      obtain ⟨g1, o, g2, _⟩ := mem_ready.1 hi
      have hin := (Array.getElem?_eq_some_iff.1 g2).1
      have := hall i hin
      have hi2 : i < X.size := by omega
      simp [Array.getD, hi2] at g1 this
      rw [this] at g1; cases g1
    have hL : L = [] := by
      rw [← hr]
      exact List.eq_nil_iff_forall_not_mem.2 fun i hi => by
        obtain ⟨g1, o, g2, _⟩ := mem_ready.1 hi
        have hin := (Array.getElem?_eq_some_iff.1 g2).1
        have := hXY i (hall i hin)
        have hi2 : i < Y.size := by omega
        simp [Array.getD, hi2] at g1 this
        rw [this] at g1; cases g1
    refine ⟨hrX, h0 hL a w ⟨h1, h2, S, m, hm, fun t q hq => hsl t q hq fun i hi hx => ?_⟩⟩
    intro hd
    have hin : i < ops.size := by
      unfold dstOf at hd
      obtain ⟨oj, g1, _⟩ := Option.bind_eq_some_iff.1 hd
      exact (Array.getElem?_eq_some_iff.1 g1).1
    rw [hall i hin] at hx; cases hx
  | succ fuel ih =>
    intro X a w hX hXY hV hf h1 h2 ⟨S, m, hm, hsl⟩
    refine ⟨fun hrX => ?_, fun i hi => ?_⟩
    · have hall := some_ready hgd hX hrX
      have hL : L = [] := by
        rw [← hr]
        exact List.eq_nil_iff_forall_not_mem.2 fun i hi => by
          obtain ⟨g1, o, g2, _⟩ := mem_ready.1 hi
          have hin := (Array.getElem?_eq_some_iff.1 g2).1
          have := hXY i (hall i hin)
          have hi2 : i < Y.size := by omega
          simp [Array.getD, hi2] at g1 this
          rw [this] at g1; cases g1
      refine h0 hL a w ⟨h1, h2, S, m, hm, fun t q hq => hsl t q hq fun i hi hx => ?_⟩
      intro hd
      have hin : i < ops.size := by
        unfold dstOf at hd
        obtain ⟨oj, g1, _⟩ := Option.bind_eq_some_iff.1 hd
        exact (Array.getElem?_eq_some_iff.1 g1).1
      rw [hall i hin] at hx; cases hx
    · obtain ⟨hn0, o, ho, hrd⟩ := mem_ready.1 hi
      have hin : i < ops.size := (Array.getElem?_eq_some_iff.1 ho).1
      have hiX : i < X.size := by omega
      have hx : X.getD i false = false := by simpa [Array.getD, hiX] using hn0
      have hset := fun j => set_iff (X := X) (i := i) (j := j) hiX
      have hdi : dstOf ops i = o.dst := by unfold dstOf; rw [ho]; rfl
      have hfu : ((X.setIfInBounds i true).toList.filter (!·)).length ≤ fuel := by
        rw [show (X.setIfInBounds i true).toList = X.toList.set i true by simp]
        have := filt_set X.toList i (by simpa using hiX) (by simpa [Array.getD, hiX] using hx)
        omega
      have hopd : ∀ t q, t ∈ opTmps o → look G t = some q → RepAt w S m a t q := fun t q ht hq => hsl t q hq fun j hj hxj hd => by
        obtain ⟨e, he, hb, hon⟩ := hgd.read i j o t ho hd ht
        have := hrd e he hb
        rw [hon, hxj] at this; cases this
      unfold wpOp
      simp only [ho]
      rw [if_pos (by simp [Region.wanted, hgd.grd i o ho])]
      refine .inl ?_
      by_cases hY : Y.getD i false = true
      · obtain ⟨o', p, g1, g2, g3, g4⟩ := hV i hY hx
        rw [ho] at g1; cases g1
        refine (g2 H nx).run C S m a w hm rfl hopd _ _ fun v w' S' m' hm' hle hv => ?_
        refine ih (X.setIfInBounds i true) (a.put o.dst v) w' (by rw [setSize]; exact hX) (fun j hj => ?_) (fun j hj hxj => hV j hj ?_) hfu (by rw [put_defers]; exact h1) (by rw [put_size]; exact h2) ⟨S', m', hm', fun t q hq hn => ?_⟩
        · rcases (hset j).1 hj with rfl | hj
          · exact hY
          · exact hXY j hj
        · cases hb : X.getD j false with
          | false => rfl
          | true => rw [(hset j).2 (.inr hb)] at hxj; cases hxj
        · by_cases hd : o.dst = some t
          · have := g3 t hd
            rw [hq] at this; cases this
            rw [hd]
            exact ⟨v, put_self (by rw [h2]; exact hgd.dst i o t ho hd), hv⟩
          · obtain ⟨u, hu, hr2⟩ := hsl t q hq fun j hj hxj hdj => by
              by_cases hji : j = i
              · subst hji; exact hd (hdi.symm.trans hdj)
              · refine hn j hj ?_ hdj
                cases hb : (X.setIfInBounds i true).getD j false with
                | false => rfl
                | true => rcases (hset j).1 hb with e | e
                          · exact absurd e hji
                          · rw [e] at hxj; cases hxj
            exact ⟨u, (put_at hd).trans hu, hr2.mono hle⟩
      · have hYf : Y.getD i false = false := by simpa using hY
        have hiL : i ∈ L := by
          rw [← hr]
          refine mem_ready.2 ⟨?_, o, ho, fun e he hb => hXY _ (hrd e he hb)⟩
          have : i < Y.size := by omega
          simpa [Array.getD, this] using hYf
        obtain ⟨o', p, H1, nx1, g1, g2, g3, g4⟩ := h i hiL
        rw [ho] at g1; cases g1
        refine g2.run C S m a w hm rfl hopd _ _ fun v w' S' m' hm' hle hv => ?_
        have hsetY := fun j => set_iff (X := Y) (i := i) (j := j) (by omega)
        refine g4 fuel (X.setIfInBounds i true) (a.put o.dst v) w' (by rw [setSize]; exact hX) (fun j hj => ?_) (fun j hj hxj => ?_) hfu (by rw [put_defers]; exact h1) (by rw [put_size]; exact h2) ⟨S', m', hm', fun t q hq hn => ?_⟩
        · rcases (hset j).1 hj with rfl | hj
          · exact (hsetY j).2 (.inl rfl)
          · exact (hsetY j).2 (.inr (hXY j hj))
        · have hxf : X.getD j false = false := by
            cases hb : X.getD j false with
            | false => rfl
            | true => rw [(hset j).2 (.inr hb)] at hxj; cases hxj
          rcases (hsetY j).1 hj with rfl | hj
          · rw [(hset j).2 (.inl rfl)] at hxj; cases hxj
          · exact virt_more (by omega) hdi hYf g3 (hV j hj hxf)
        · rw [look_gput] at hq
          by_cases hd : o.dst = some t
          · rw [if_pos hd] at hq; cases hq
            rw [hd]
            exact ⟨v, put_self (by rw [h2]; exact hgd.dst i o t ho hd), hv⟩
          · rw [if_neg hd] at hq
            obtain ⟨u, hu, hr2⟩ := hsl t q hq fun j hj hxj hdj => by
              by_cases hji : j = i
              · subst hji; exact hd (hdi.symm.trans hdj)
              · refine hn j ((hsetY j).2 (.inr hj)) ?_ hdj
                cases hb : (X.setIfInBounds i true).getD j false with
                | false => rfl
                | true => rcases (hset j).1 hb with e | e
                          · exact absurd e hji
                          · rw [e] at hxj; cases hxj
            exact ⟨u, (put_at hd).trans hu, hr2.mono hle⟩
theorem draw_y {id : Nat} {l : List Oper} {G : Env} {H : Hp} {nx : Nat} (G1 : Env) (H1 : Hp) (nx1 : Nat) (hm : P.follows .mixedOrders = true) (h : Next C N G1 H1 nx1 (Q .normal) → AnyY P l.toArray N C Q (Array.replicate l.toArray.size false) G H nx) (hK : Next C N G1 H1 nx1 (Q .normal)) : Next C N G H nx ((Code.region id l.toArray true).wp P Q) := by
  intro a w hR
  obtain ⟨S, m, hmem, hslots⟩ := hR.mem
  have hle : Le S m w S m { w with drawn := w.drawn + 1 } := ⟨fun _ h => h, fun _ _ => rfl, fun _ _ h => h, fun _ _ h => h⟩
  have hfalse : ∀ i, (Array.replicate (l.toArray).size false).getD i false = false := fun i => by
    by_cases h : i < l.length <;> simp [Array.getD, h]
  exact wp_region_any hm (h hK _ _ _ _ (by simp) (fun _ h => h) (fun i hi => by rw [hfalse] at hi; cases hi) (by simp) hR.defers hR.size ⟨S, m, hmem.drew, fun t q hq _ => (hslots t q hq).mono hle⟩)
theorem StepY.mk {Y : Array Bool} {G : Env} {H : Hp} {nx j : Nat} {o : Oper} {p : PV} {H1 : Hp} {nx1 : Nat} (h1 : ops[j]? = some o) (h2 : OpS P o true G H nx p H1 nx1) (h3 : ∀ t, o.dst = some t → look G t = none) (h4 : AnyY P ops N C Q (Y.setIfInBounds j true) (gput G o.dst p) H1 nx1) : StepY P ops N C Q Y G H nx j := ⟨o, p, H1, nx1, h1, h2, h3, h4⟩
theorem AnyY.nil {Y : Array Bool} {G : Env} {H : Hp} {nx : Nat} (hok : yOK ops N = true) (hYs : Y.size = ops.size) (hr : Region.ready .any ops Y = []) (h0 : Next C N G H nx (Q .normal)) : AnyY P ops N C Q Y G H nx := .step hok hYs hr (fun _ => h0) fun j hj => by cases hj
theorem AnyY.one {Y : Array Bool} {G : Env} {H : Hp} {nx : Nat} (i : Nat) (hok : yOK ops N = true) (hYs : Y.size = ops.size) (hr : Region.ready .any ops Y = [i]) (h : StepY P ops N C Q Y G H nx i) : AnyY P ops N C Q Y G H nx := .step hok hYs hr (fun e => by cases e) fun j hj => by simp at hj; subst hj; exact h
theorem AnyY.two {Y : Array Bool} {G : Env} {H : Hp} {nx : Nat} (i j : Nat) (hok : yOK ops N = true) (hYs : Y.size = ops.size) (hr : Region.ready .any ops Y = [i, j]) (h : StepY P ops N C Q Y G H nx i) (h2 : StepY P ops N C Q Y G H nx j) : AnyY P ops N C Q Y G H nx := .step hok hYs hr (fun e => by cases e) fun k hk => by
  simp at hk; rcases hk with rfl | rfl
  · exact h
  · exact h2
theorem AnyY.three {Y : Array Bool} {G : Env} {H : Hp} {nx : Nat} (i j k : Nat) (hok : yOK ops N = true) (hYs : Y.size = ops.size) (hr : Region.ready .any ops Y = [i, j, k]) (h : StepY P ops N C Q Y G H nx i) (h2 : StepY P ops N C Q Y G H nx j) (h3 : StepY P ops N C Q Y G H nx k) : AnyY P ops N C Q Y G H nx := .step hok hYs hr (fun e => by cases e) fun l hl => by
  simp at hl; rcases hl with rfl | rfl | rfl
  · exact h
  · exact h2
  · exact h3
theorem AnyY.toRefs {Y : Array Bool} {G : Env} {H : Hp} {nx : Nat} (id : Nat) {sz : Nat} {rows : List (List FV)} {rows' : List (List PV)} (hl : hlook H id = some (.flat sz rows)) (hr : (rows.map fun r => r.map PV.fz) = rows') (h : AnyY P ops N C Q Y G ((id, some (.refs sz rows')) :: H) nx) : AnyY P ops N C Q Y G H nx := by
  subst hr
  intro fuel X a w h1 h2 h3 h4 h5 h6 ⟨S, m, hm, hsl⟩
  exact h fuel X a w h1 h2 h3 h4 h5 h6 ⟨S, m, hm.retell hl ORep.toRefs (no_own plain_map), hsl⟩
end
end Go.RT
namespace Go.RT
open Go
set_option linter.all false
section
variable {P : Program} {C : Cx} {N : Nat} {G : Env} {H : Hp} {nx : Nat} {Q : Exit → Act → World → Prop} {K : Act → World → Prop}
/-- two ways that meet again: the state where they meet is told -/
theorem n_join {x : Code} (G' : Env) (H' : Hp) (n' : Nat) (h1 : Next C N G H nx (x.wp P (Exit.then (fun a w => Rel C N G' H' n' a w) Q))) (h2 : Next C N G' H' n' K) : Next C N G H nx (x.wp P (Exit.then K Q)) := fun a w hr =>
  Go.Code.wp_mono (fun e a' w' hq => by
    cases e with
    | normal => exact h2 a' w' hq
    | _ => exact hq) (h1 a w hr)
end
end Go.RT
namespace Go.Proofs.Ytdbdajokdipmlaa
open Go Go.RT Go.Proofs Go.Pl
set_option linter.all false
set_option maxRecDepth 20000
set_option maxHeartbeats 4000000

theorem swapR_c (P U M V R : List Edg) (cl : PV) (h : U.length = V.length) (hn : P.length + U.length + M.length + V.length + R.length ≤ 2000000) : Meets Try.prog 55 [.sl 0 3 0 (P.length + U.length + M.length + V.length + R.length), IV .i64 P.length, IV .i64 (P.length + U.length + M.length : Nat), IV .i64 U.length, cl] 1 [(0, OE (P ++ (U ++ (M ++ (V ++ R)))))] (.fz (.tup [])) [(0, OE (P ++ (V ++ (M ++ (U ++ R)))))] 1 := by
  rw [← swI_0, ← swI_n h]
  refine Meets.intro Try.func55 rfl (Nat.le_of_ble_eq_true rfl) fun C hC => ?_
  simp only [List.map, argEnv, Nat.reduceAdd]
  refine nK ?_
  refine s_reg rfl ?_
  first | refine Run.pure (dd := some 10) rfl rfl (op_assign rfl (Opd.const _)) ?_ | refine Run.pure (dd := some 10) rfl rfl (op_junk (.inr rfl)) ?_
  refine Run.nil (FinR.mk ?_)
  refine nK ?_
  refine n_loop (ι := Nat) (fun i => ([(0, .sl 0 3 0 (P.length + U.length + M.length + V.length + R.length)), (1, IV .i64 P.length), (2, IV .i64 (P.length + U.length + M.length : Nat)), (3, IV .i64 U.length), (10, IV .i64 i)], [(0, OE (swI P U M V R i))], 1)) (fun i => i ≤ U.length) (fun i => U.length - i) 0 (Nat.zero_le _) ?_ ?_
  · refine Next.weak [0] [] (by rfl) (keepsN hC _ rfl) (by repeat (first | exact trivial | refine ⟨⟨_, rfl, .inl ⟨rfl, rfl⟩⟩, ?_⟩ | refine ⟨⟨_, rfl, .inl ⟨slEq rfl tN, rfl⟩⟩, ?_⟩ | refine ⟨⟨_, rfl, .inl ⟨ivEq tX, rfl⟩⟩, ?_⟩)) (by exact ⟨ent_same rfl rfl rfl tL, trivial⟩) (fun _ h => by simp at h) rel_intro
  · intro i hi K hK
    try dsimp only at hi hK ⊢
    refine nK ?_
    refine s_reg rfl ?_
    first | refine Run.pure (dd := some 11) rfl rfl (op_move rfl (Opd.tmp _ _ rfl)) ?_ | refine Run.pure (dd := some 11) rfl rfl (op_junk (.inl rfl)) ?_
    first | refine Run.pure (dd := some 12) rfl rfl (op_move rfl (Opd.tmp _ _ rfl)) ?_ | refine Run.pure (dd := some 12) rfl rfl (op_junk (.inl rfl)) ?_
    refine Run.pure (dd := some 13) rfl rfl (op_lss rfl (Opd.tmp _ _ rfl) (Opd.tmp _ _ rfl)) ?_
    refine Run.nil (FinR.mk ?_)
    refine nK ?_
    refine n_cond _ rfl (fun hb => ?_) (fun hb => ?_)
    · have hu : i < U.length := by have := of_decide_eq_true hb; omega
      have hv : i < V.length := by omega
      have ru : ((swI P U M V R i).map encE)[P.length + i]? = some (encE U[i]) := by rw [List.getElem?_map, swI_u hu hv]; rfl
      have rv : ((swI P U M V R i).map encE)[P.length + U.length + M.length + i]? = some (encE V[i]) := by rw [List.getElem?_map, swI_v hu hv]; rfl
      have hK1 := hK (i + 1) (by omega) (by omega)
      rw [← swI_step hu hv] at hK1
      have rv2 : ∀ x, (((swI P U M V R i).map encE).set (P.length + i) x)[P.length + U.length + M.length + i]? = some (encE V[i]) := fun x => by rw [List.getElem?_set_ne (by omega)]; exact rv
      generalize swI P U M V R i = L at *
      generalize U[i] = u at *
      generalize V[i] = v at *
      refine nK ?_
      refine s_draw mixed ?_
      first | refine Run.pure (dd := some 16) rfl rfl (op_move rfl (Opd.tmp _ _ rfl)) ?_ | refine Run.pure (dd := some 16) rfl rfl (op_junk (.inl rfl)) ?_
      first | refine Run.pure (dd := some 17) rfl rfl (op_move rfl (Opd.tmp _ _ rfl)) ?_ | refine Run.pure (dd := some 17) rfl rfl (op_junk (.inl rfl)) ?_
      first | refine Run.pure (dd := some 18) rfl rfl (op_move rfl (Opd.tmp _ _ rfl)) ?_ | refine Run.pure (dd := some 18) rfl rfl (op_junk (.inl rfl)) ?_
      refine Run.pure (dd := some 19) rfl rfl (op_add rfl (Opd.tmp _ _ rfl) (Opd.tmp _ _ rfl) tI) ?_
      first | refine Run.pure (dd := some 20) rfl rfl (op_move rfl (Opd.tmp _ _ rfl)) ?_ | refine Run.pure (dd := some 20) rfl rfl (op_junk (.inl rfl)) ?_
      first | refine Run.pure (dd := some 21) rfl rfl (op_move rfl (Opd.tmp _ _ rfl)) ?_ | refine Run.pure (dd := some 21) rfl rfl (op_junk (.inl rfl)) ?_
      first | refine Run.pure (dd := some 22) rfl rfl (op_move rfl (Opd.tmp _ _ rfl)) ?_ | refine Run.pure (dd := some 22) rfl rfl (op_junk (.inl rfl)) ?_
      refine Run.pure (dd := some 23) rfl rfl (op_add rfl (Opd.tmp _ _ rfl) (Opd.tmp _ _ rfl) tI) ?_
      first | refine Run.pure (dd := some 24) rfl rfl (op_move rfl (Opd.tmp _ _ rfl)) ?_ | refine Run.pure (dd := some 24) rfl rfl (op_junk (.inl rfl)) ?_
      first | refine Run.pure (dd := some 25) rfl rfl (op_move rfl (Opd.tmp _ _ rfl)) ?_ | refine Run.pure (dd := some 25) rfl rfl (op_junk (.inl rfl)) ?_
      first | refine Run.pure (dd := some 26) rfl rfl (op_move rfl (Opd.tmp _ _ rfl)) ?_ | refine Run.pure (dd := some 26) rfl rfl (op_junk (.inl rfl)) ?_
      refine Run.pure (dd := some 27) rfl rfl (op_add rfl (Opd.tmp _ _ rfl) (Opd.tmp _ _ rfl) tI) ?_
      refine Run.pure (dd := some 28) rfl rfl (op_idx_sl0 (P.length + U.length + M.length + i) rfl (Opd.tmp _ _ rfl) (Opd.tmp _ _ rfl) (by intro _; constructor <;> omega)) ?_
      refine Run.load (dd := some 29) rfl rfl (op_loadw_flat rfl (Opd.tmp _ _ rfl) (by intro _; exact ⟨rfl, rv⟩) rfl) ?_
      first | refine Run.pure (dd := some 30) rfl rfl (op_move rfl (Opd.tmp _ _ rfl)) ?_ | refine Run.pure (dd := some 30) rfl rfl (op_junk (.inl rfl)) ?_
      first | refine Run.pure (dd := some 31) rfl rfl (op_move rfl (Opd.tmp _ _ rfl)) ?_ | refine Run.pure (dd := some 31) rfl rfl (op_junk (.inl rfl)) ?_
      first | refine Run.pure (dd := some 32) rfl rfl (op_move rfl (Opd.tmp _ _ rfl)) ?_ | refine Run.pure (dd := some 32) rfl rfl (op_junk (.inl rfl)) ?_
      refine Run.pure (dd := some 33) rfl rfl (op_add rfl (Opd.tmp _ _ rfl) (Opd.tmp _ _ rfl) tI) ?_
      refine Run.pure (dd := some 34) rfl rfl (op_idx_sl0 (P.length + i) rfl (Opd.tmp _ _ rfl) (Opd.tmp _ _ rfl) (by intro _; constructor <;> omega)) ?_
      refine Run.load (dd := some 35) rfl rfl (op_loadw_flat rfl (Opd.tmp _ _ rfl) (by intro _; exact ⟨rfl, ru⟩) rfl) ?_
      refine Run.pure (dd := some 36) rfl rfl (op_idx_sl0 (P.length + i) rfl (Opd.tmp _ _ rfl) (Opd.tmp _ _ rfl) (by intro _; constructor <;> omega)) ?_
      refine Run.effW (dd := none) rfl rfl (op_store_flat rfl (Opd.tmp _ _ rfl) (Opd.tmp _ _ rfl) tC rfl rfl ru tS) tE ?_
      refine Run.pure (dd := some 37) rfl rfl (op_idx_sl0 (P.length + U.length + M.length + i) rfl (Opd.tmp _ _ rfl) (Opd.tmp _ _ rfl) (by intro _; constructor <;> omega)) ?_
      refine Run.effW (dd := none) rfl rfl (op_store_flat rfl (Opd.tmp _ _ rfl) (Opd.tmp _ _ rfl) tC rfl rfl (rv2 _) tS) tE ?_
      refine Run.nil (FinD.mk (by kernel_rfl) ?_)
      refine nK ?_
      refine s_reg rfl ?_
      first | refine Run.pure (dd := some 14) rfl rfl (op_move rfl (Opd.tmp _ _ rfl)) ?_ | refine Run.pure (dd := some 14) rfl rfl (op_junk (.inl rfl)) ?_
      refine Run.pure (dd := some 15) rfl rfl (op_add rfl (Opd.tmp _ _ rfl) (Opd.const _) tI) ?_
      first | refine Run.pure (dd := some 10) rfl rfl (op_assign rfl (Opd.tmp _ _ rfl)) ?_ | refine Run.pure (dd := some 10) rfl rfl (op_junk (.inr rfl)) ?_
      refine Run.nil (FinR.mk ?_)
      refine nK ?_
      refine Next.weak [0] [] (by rfl) (keepsN hC _ rfl) (by repeat (first | exact trivial | refine ⟨⟨_, rfl, .inl ⟨rfl, rfl⟩⟩, ?_⟩ | refine ⟨⟨_, rfl, .inl ⟨slEq rfl tN, rfl⟩⟩, ?_⟩ | refine ⟨⟨_, rfl, .inl ⟨ivEq tX, rfl⟩⟩, ?_⟩)) (by exact ⟨ent_same rfl rfl (flEq rfl (by rw [List.map_set, List.map_set])) trivial, trivial⟩) (fun _ h => by simp at h) hK1
    · have hie : i = U.length := by have := of_decide_eq_false hb; omega
      subst hie
      refine nK ?_
      refine Next.weak [0] [] (by rfl) (keepsN hC _ rfl) (G' := []) (H' := [(0, OE (swI P U M V R U.length))]) trivial (by exact ⟨ent_same rfl rfl rfl tL, trivial⟩) (fun _ h => by simp at h) ?_
      exact n_out0 rfl
end Go.Proofs.Ytdbdajokdipmlaa
namespace Go.Proofs.Ytdbdajokdipmlaa
open Go Go.RT Go.Proofs Go.Pl
set_option linter.all false
set_option maxRecDepth 20000
set_option maxHeartbeats 4000000
theorem swapR_i (P U M V R L T : List Edg) (cl : PV) (N : Nat) (a b n : Int) (h : U.length = V.length) (hN : N = P.length + U.length + M.length + V.length + R.length) (hn : N ≤ 2000000) (ha : a = P.length) (hb : b = (P.length + U.length + M.length : Nat)) (hc : n = U.length) (hL : L = P ++ (U ++ (M ++ (V ++ R)))) (hT : T = P ++ (V ++ (M ++ (U ++ R)))) :
    Meets Try.prog 55 [.sl 0 3 0 N, IV .i64 a, IV .i64 b, IV .i64 n, cl] 1 [(0, OE L)] (.fz (.tup [])) [(0, OE T)] 1 := by
  subst hN; subst ha; subst hb; subst hc; subst hL; subst hT
  exact swapR_c P U M V R cl h hn
theorem rotate_c (gf : Nat) (caps : List FV) (X U V Y : List Edg) (N : Nat) (hN : N = X.length + U.length + V.length + Y.length) (hn : N ≤ 2000000) (hu : 0 < U.length) (hv : 0 < V.length) : Meets Try.prog 44 [.sl 0 3 0 N, IV .i64 X.length, IV .i64 (X.length + U.length : Nat), IV .i64 (X.length + U.length + V.length : Nat), (PV.fz (.clo gf caps))] 1 [(0, OE (X ++ (U ++ (V ++ Y))))] (.fz (.tup [])) [(0, OE (X ++ (V ++ (U ++ Y))))] 1 := by
  generalize hm : X.length + U.length = m
  have hm2 : ((X.length + U.length + V.length : Nat) : Int) = ((m + V.length : Nat) : Int) := by omega
  generalize hT : X ++ (V ++ (U ++ Y)) = T
  refine Meets.intro Try.func44 rfl (Nat.le_of_ble_eq_true rfl) fun C hC => ?_
  simp only [List.map, argEnv, Nat.reduceAdd]
  refine nK ?_
  refine s_reg rfl ?_
  first | refine Run.pure (dd := some 12) rfl rfl (op_move rfl (Opd.tmp _ _ rfl)) ?_ | refine Run.pure (dd := some 12) rfl rfl (op_junk (.inl rfl)) ?_
  first | refine Run.pure (dd := some 13) rfl rfl (op_move rfl (Opd.tmp _ _ rfl)) ?_ | refine Run.pure (dd := some 13) rfl rfl (op_junk (.inl rfl)) ?_
  refine Run.pure (dd := some 14) rfl rfl (op_sub rfl (Opd.tmp _ _ rfl) (Opd.tmp _ _ rfl) tI) ?_
  first | refine Run.pure (dd := some 10) rfl rfl (op_assign rfl (Opd.tmp _ _ rfl)) ?_ | refine Run.pure (dd := some 10) rfl rfl (op_junk (.inr rfl)) ?_
  refine Run.nil (FinR.mk ?_)
  refine nK ?_
  refine s_reg rfl ?_
  first | refine Run.pure (dd := some 15) rfl rfl (op_move rfl (Opd.tmp _ _ rfl)) ?_ | refine Run.pure (dd := some 15) rfl rfl (op_junk (.inl rfl)) ?_
  first | refine Run.pure (dd := some 16) rfl rfl (op_move rfl (Opd.tmp _ _ rfl)) ?_ | refine Run.pure (dd := some 16) rfl rfl (op_junk (.inl rfl)) ?_
  refine Run.pure (dd := some 17) rfl rfl (op_sub rfl (Opd.tmp _ _ rfl) (Opd.tmp _ _ rfl) tI) ?_
  first | refine Run.pure (dd := some 11) rfl rfl (op_assign rfl (Opd.tmp _ _ rfl)) ?_ | refine Run.pure (dd := some 11) rfl rfl (op_junk (.inr rfl)) ?_
  refine Run.nil (FinR.mk ?_)
  refine nK ?_
  refine n_loop (ι := List Edg × List Edg × List Edg × List Edg) (fun s => ([(0, .sl 0 3 0 N), (2, IV .i64 m), (4, (PV.fz (.clo gf caps))), (10, IV .i64 s.2.1.length), (11, IV .i64 s.2.2.1.length)], [(0, OE (s.1 ++ (s.2.1 ++ (s.2.2.1 ++ s.2.2.2))))], 1)) (fun s => s.1 ++ (s.2.2.1 ++ (s.2.1 ++ s.2.2.2)) = T ∧ s.1.length + s.2.1.length = m ∧ 0 < s.2.1.length ∧ 0 < s.2.2.1.length ∧ N = s.1.length + s.2.1.length + s.2.2.1.length + s.2.2.2.length) (fun s => s.2.1.length + s.2.2.1.length) (X, U, V, Y) ⟨hT, hm, hu, hv, hN⟩ ?_ ?_
  · refine Next.weak [0] [] (by rfl) (keepsN hC _ rfl) (by exact ⟨⟨_, rfl, .inl ⟨rfl, rfl⟩⟩, ⟨⟨_, rfl, .inl ⟨rfl, rfl⟩⟩, ⟨⟨_, rfl, .inl ⟨rfl, rfl⟩⟩, ⟨⟨_, rfl, .inl ⟨ivEq (by dsimp only; omega), rfl⟩⟩, ⟨⟨_, rfl, .inl ⟨ivEq (by dsimp only; omega), rfl⟩⟩, trivial⟩⟩⟩⟩⟩) (by exact ⟨ent_same rfl rfl rfl tL, trivial⟩) (fun _ h => by simp at h) rel_intro
  · intro ⟨X, U, V, Y⟩ ⟨hT, hm, hu, hv, hN⟩ K hK
    dsimp only at hT hm hu hv hN hK ⊢
    refine nK ?_
    refine s_reg rfl ?_
    first | refine Run.pure (dd := some 18) rfl rfl (op_move rfl (Opd.tmp _ _ rfl)) ?_ | refine Run.pure (dd := some 18) rfl rfl (op_junk (.inl rfl)) ?_
    first | refine Run.pure (dd := some 19) rfl rfl (op_move rfl (Opd.tmp _ _ rfl)) ?_ | refine Run.pure (dd := some 19) rfl rfl (op_junk (.inl rfl)) ?_
    refine Run.pure (dd := some 20) rfl rfl (op_neq rfl (Opd.tmp _ _ rfl) (Opd.tmp _ _ rfl)) ?_
    refine Run.nil (FinR.mk ?_)
    refine nK ?_
    refine n_cond _ rfl (fun hb => ?_) (fun hb => ?_)
    · have hne : U.length ≠ V.length := by simp at hb; omega
      clear hb
      refine nK ?_
      refine s_reg rfl ?_
      first | refine Run.pure (dd := some 21) rfl rfl (op_move rfl (Opd.tmp _ _ rfl)) ?_ | refine Run.pure (dd := some 21) rfl rfl (op_junk (.inl rfl)) ?_
      first | refine Run.pure (dd := some 22) rfl rfl (op_move rfl (Opd.tmp _ _ rfl)) ?_ | refine Run.pure (dd := some 22) rfl rfl (op_junk (.inl rfl)) ?_
      refine Run.pure (dd := some 23) rfl rfl (op_gtr rfl (Opd.tmp _ _ rfl) (Opd.tmp _ _ rfl)) ?_
      refine Run.nil (FinR.mk ?_)
      refine nK ?_
      refine n_cond _ rfl (fun hb => ?_) (fun hb => ?_)
      · have hlt : V.length < U.length := by have := of_decide_eq_true hb; omega
        have hK1 := hK (X ++ V, U.drop V.length, U.take V.length, Y) ⟨by dsimp only; rw [← hT]; simp only [List.append_assoc]; rw [← List.append_assoc (U.take V.length), List.take_append_drop], by simp; omega, by simp; omega, by simp; omega, by simp; omega⟩ (by simp; omega)
        dsimp only at hK1
        have e1 : (U.drop V.length).length = U.length - V.length := List.length_drop
        have e2 : (U.take V.length).length = V.length := by simp; omega
        rw [e1, e2] at hK1
        have hsw := swapR_i X (U.take V.length) (U.drop V.length) V Y (X ++ (U ++ (V ++ Y))) ((X ++ V) ++ (U.drop V.length ++ (U.take V.length ++ Y))) (PV.fz (.clo gf caps)) N (m - U.length) m V.length e2 (by rw [e1, e2]; omega) hn (by omega) (by rw [e1, e2]; omega) (by rw [e2]) (by rw [← List.append_assoc (U.take V.length), List.take_append_drop]) (by simp only [List.append_assoc])
        refine nK ?_
        refine s_reg rfl ?_
        first | refine Run.pure (dd := some 24) rfl rfl (op_move rfl (Opd.tmp _ _ rfl)) ?_ | refine Run.pure (dd := some 24) rfl rfl (op_junk (.inl rfl)) ?_
        first | refine Run.pure (dd := some 25) rfl rfl (op_move rfl (Opd.tmp _ _ rfl)) ?_ | refine Run.pure (dd := some 25) rfl rfl (op_junk (.inl rfl)) ?_
        first | refine Run.pure (dd := some 26) rfl rfl (op_move rfl (Opd.tmp _ _ rfl)) ?_ | refine Run.pure (dd := some 26) rfl rfl (op_junk (.inl rfl)) ?_
        refine Run.pure (dd := some 27) rfl rfl (op_sub rfl (Opd.tmp _ _ rfl) (Opd.tmp _ _ rfl) tI) ?_
        first | refine Run.pure (dd := some 28) rfl rfl (op_move rfl (Opd.tmp _ _ rfl)) ?_ | refine Run.pure (dd := some 28) rfl rfl (op_junk (.inl rfl)) ?_
        first | refine Run.pure (dd := some 29) rfl rfl (op_move rfl (Opd.tmp _ _ rfl)) ?_ | refine Run.pure (dd := some 29) rfl rfl (op_junk (.inl rfl)) ?_
        first | refine Run.pure (dd := some 30) rfl rfl (op_move rfl (Opd.tmp _ _ rfl)) ?_ | refine Run.pure (dd := some 30) rfl rfl (op_junk (.inl rfl)) ?_
        refine Run.eff (dd := some 31) rfl rfl (op_call (n := 1) (n' := 1) [0] (fun _ => hsw) rfl (Opd.func _) (Opds.cons _ _ _ _ (Opd.tmp _ _ rfl) (Opds.cons _ _ _ _ (Opd.tmp _ _ rfl) (Opds.cons _ _ _ _ (Opd.tmp _ _ rfl) (Opds.cons _ _ _ _ (Opd.tmp _ _ rfl) (Opds.cons _ _ _ _ (Opd.tmp _ _ rfl) Opds.nil))))) rfl rfl (Lent.of rfl rfl (by exact ⟨⟨rfl, rfl, rfl, trivial⟩, trivial⟩) rfl) rfl rfl rfl rfl rfl) ?_
        refine Run.nil (FinR.mk ?_)
        refine nK ?_
        refine s_reg rfl ?_
        first | refine Run.pure (dd := some 32) rfl rfl (op_move rfl (Opd.tmp _ _ rfl)) ?_ | refine Run.pure (dd := some 32) rfl rfl (op_junk (.inl rfl)) ?_
        first | refine Run.pure (dd := some 33) rfl rfl (op_move rfl (Opd.tmp _ _ rfl)) ?_ | refine Run.pure (dd := some 33) rfl rfl (op_junk (.inl rfl)) ?_
        refine Run.pure (dd := some 34) rfl rfl (op_sub rfl (Opd.tmp _ _ rfl) (Opd.tmp _ _ rfl) tI) ?_
        first | refine Run.pure (dd := some 10) rfl rfl (op_assign rfl (Opd.tmp _ _ rfl)) ?_ | refine Run.pure (dd := some 10) rfl rfl (op_junk (.inr rfl)) ?_
        refine Run.nil (FinR.mk ?_)
        refine nK ?_
        refine Next.weak [0] [] (by rfl) (keepsN hC _ rfl) (by repeat (first | exact trivial | refine ⟨⟨_, rfl, .inl ⟨rfl, rfl⟩⟩, ?_⟩ | refine ⟨⟨_, rfl, .inl ⟨ivEq (by omega), rfl⟩⟩, ?_⟩)) (by exact ⟨ent_same rfl rfl rfl tL, trivial⟩) (fun _ h => by simp at h) hK1
      · have hlt : U.length < V.length := by have := of_decide_eq_false hb; omega
        have hK1 := hK (X, V.drop (V.length - U.length), V.take (V.length - U.length), U ++ Y) ⟨by dsimp only; rw [← hT, ← List.append_assoc (V.take _), List.take_append_drop], by simp; omega, by simp; omega, by simp; omega, by simp; omega⟩ (by simp; omega)
        dsimp only at hK1
        have e1 : (V.drop (V.length - U.length)).length = U.length := by simp; omega
        have e2 : (V.take (V.length - U.length)).length = V.length - U.length := by simp
        rw [e1, e2] at hK1
        have hsw := swapR_i X U (V.take (V.length - U.length)) (V.drop (V.length - U.length)) Y (X ++ (U ++ (V ++ Y))) (X ++ (V.drop (V.length - U.length) ++ (V.take (V.length - U.length) ++ (U ++ Y)))) (PV.fz (.clo gf caps)) N (m - U.length) (m + V.length - U.length) U.length e1.symm (by rw [e1, e2]; omega) hn (by omega) (by rw [e2]; omega) rfl (by rw [← List.append_assoc (V.take _), List.take_append_drop]) rfl
        refine nK ?_
        refine s_reg rfl ?_
        first | refine Run.pure (dd := some 35) rfl rfl (op_move rfl (Opd.tmp _ _ rfl)) ?_ | refine Run.pure (dd := some 35) rfl rfl (op_junk (.inl rfl)) ?_
        first | refine Run.pure (dd := some 36) rfl rfl (op_move rfl (Opd.tmp _ _ rfl)) ?_ | refine Run.pure (dd := some 36) rfl rfl (op_junk (.inl rfl)) ?_
        first | refine Run.pure (dd := some 37) rfl rfl (op_move rfl (Opd.tmp _ _ rfl)) ?_ | refine Run.pure (dd := some 37) rfl rfl (op_junk (.inl rfl)) ?_
        refine Run.pure (dd := some 38) rfl rfl (op_sub rfl (Opd.tmp _ _ rfl) (Opd.tmp _ _ rfl) tI) ?_
        first | refine Run.pure (dd := some 39) rfl rfl (op_move rfl (Opd.tmp _ _ rfl)) ?_ | refine Run.pure (dd := some 39) rfl rfl (op_junk (.inl rfl)) ?_
        first | refine Run.pure (dd := some 40) rfl rfl (op_move rfl (Opd.tmp _ _ rfl)) ?_ | refine Run.pure (dd := some 40) rfl rfl (op_junk (.inl rfl)) ?_
        refine Run.pure (dd := some 41) rfl rfl (op_add rfl (Opd.tmp _ _ rfl) (Opd.tmp _ _ rfl) tI) ?_
        first | refine Run.pure (dd := some 42) rfl rfl (op_move rfl (Opd.tmp _ _ rfl)) ?_ | refine Run.pure (dd := some 42) rfl rfl (op_junk (.inl rfl)) ?_
        refine Run.pure (dd := some 43) rfl rfl (op_sub rfl (Opd.tmp _ _ rfl) (Opd.tmp _ _ rfl) tI) ?_
        first | refine Run.pure (dd := some 44) rfl rfl (op_move rfl (Opd.tmp _ _ rfl)) ?_ | refine Run.pure (dd := some 44) rfl rfl (op_junk (.inl rfl)) ?_
        first | refine Run.pure (dd := some 45) rfl rfl (op_move rfl (Opd.tmp _ _ rfl)) ?_ | refine Run.pure (dd := some 45) rfl rfl (op_junk (.inl rfl)) ?_
        refine Run.eff (dd := some 46) rfl rfl (op_call (n := 1) (n' := 1) [0] (fun _ => hsw) rfl (Opd.func _) (Opds.cons _ _ _ _ (Opd.tmp _ _ rfl) (Opds.cons _ _ _ _ (Opd.tmp _ _ rfl) (Opds.cons _ _ _ _ (Opd.tmp _ _ rfl) (Opds.cons _ _ _ _ (Opd.tmp _ _ rfl) (Opds.cons _ _ _ _ (Opd.tmp _ _ rfl) Opds.nil))))) rfl rfl (Lent.of rfl rfl (by exact ⟨⟨rfl, rfl, rfl, trivial⟩, trivial⟩) rfl) rfl rfl rfl rfl rfl) ?_
        refine Run.nil (FinR.mk ?_)
        refine nK ?_
        refine s_reg rfl ?_
        first | refine Run.pure (dd := some 47) rfl rfl (op_move rfl (Opd.tmp _ _ rfl)) ?_ | refine Run.pure (dd := some 47) rfl rfl (op_junk (.inl rfl)) ?_
        first | refine Run.pure (dd := some 48) rfl rfl (op_move rfl (Opd.tmp _ _ rfl)) ?_ | refine Run.pure (dd := some 48) rfl rfl (op_junk (.inl rfl)) ?_
        refine Run.pure (dd := some 49) rfl rfl (op_sub rfl (Opd.tmp _ _ rfl) (Opd.tmp _ _ rfl) tI) ?_
        first | refine Run.pure (dd := some 11) rfl rfl (op_assign rfl (Opd.tmp _ _ rfl)) ?_ | refine Run.pure (dd := some 11) rfl rfl (op_junk (.inr rfl)) ?_
        refine Run.nil (FinR.mk ?_)
        refine nK ?_
        refine Next.weak [0] [] (by rfl) (keepsN hC _ rfl) (by repeat (first | exact trivial | refine ⟨⟨_, rfl, .inl ⟨rfl, rfl⟩⟩, ?_⟩ | refine ⟨⟨_, rfl, .inl ⟨ivEq (by omega), rfl⟩⟩, ?_⟩)) (by exact ⟨ent_same rfl rfl rfl tL, trivial⟩) (fun _ h => by simp at h) hK1
    · have heq : U.length = V.length := by simp at hb; omega
      have hsw := swapR_i X U [] V Y (X ++ (U ++ (V ++ Y))) T (PV.fz (.clo gf caps)) N (m - U.length) m U.length heq (by simp; omega) hn (by omega) (by simp; omega) rfl (by simp) (by rw [← hT]; simp)
      refine nK ?_
      refine s_reg rfl ?_
      first | refine Run.pure (dd := some 50) rfl rfl (op_move rfl (Opd.tmp _ _ rfl)) ?_ | refine Run.pure (dd := some 50) rfl rfl (op_junk (.inl rfl)) ?_
      first | refine Run.pure (dd := some 51) rfl rfl (op_move rfl (Opd.tmp _ _ rfl)) ?_ | refine Run.pure (dd := some 51) rfl rfl (op_junk (.inl rfl)) ?_
      first | refine Run.pure (dd := some 52) rfl rfl (op_move rfl (Opd.tmp _ _ rfl)) ?_ | refine Run.pure (dd := some 52) rfl rfl (op_junk (.inl rfl)) ?_
      refine Run.pure (dd := some 53) rfl rfl (op_sub rfl (Opd.tmp _ _ rfl) (Opd.tmp _ _ rfl) tI) ?_
      first | refine Run.pure (dd := some 54) rfl rfl (op_move rfl (Opd.tmp _ _ rfl)) ?_ | refine Run.pure (dd := some 54) rfl rfl (op_junk (.inl rfl)) ?_
      first | refine Run.pure (dd := some 55) rfl rfl (op_move rfl (Opd.tmp _ _ rfl)) ?_ | refine Run.pure (dd := some 55) rfl rfl (op_junk (.inl rfl)) ?_
      first | refine Run.pure (dd := some 56) rfl rfl (op_move rfl (Opd.tmp _ _ rfl)) ?_ | refine Run.pure (dd := some 56) rfl rfl (op_junk (.inl rfl)) ?_
      refine Run.eff (dd := some 57) rfl rfl (op_call (n := 1) (n' := 1) [0] (fun _ => hsw) rfl (Opd.func _) (Opds.cons _ _ _ _ (Opd.tmp _ _ rfl) (Opds.cons _ _ _ _ (Opd.tmp _ _ rfl) (Opds.cons _ _ _ _ (Opd.tmp _ _ rfl) (Opds.cons _ _ _ _ (Opd.tmp _ _ rfl) (Opds.cons _ _ _ _ (Opd.tmp _ _ rfl) Opds.nil))))) rfl rfl (Lent.of rfl rfl (by exact ⟨⟨rfl, rfl, rfl, trivial⟩, trivial⟩) rfl) rfl rfl rfl rfl rfl) ?_
      refine Run.nil (FinR.mk ?_)
      refine nK ?_
      refine Next.weak [0] [] (by rfl) (keepsN hC _ rfl) (G' := []) (H' := [(0, OE T)]) trivial (by exact ⟨ent_same rfl rfl rfl tL, trivial⟩) (fun _ h => by simp at h) ?_
      exact n_out0 rfl
end Go.Proofs.Ytdbdajokdipmlaa
namespace Go.Proofs.Ytdbdajokdipmlaa
open Go Go.RT Go.Proofs Go.Pl
set_option linter.all false
set_option maxRecDepth 20000
set_option maxHeartbeats 4000000
theorem ins_c (gf : Nat) [FnB Try.prog gf] (caps : List FV) (c : Edg → Edg → Int) (o : Go.Pl.SW (ltS c)) (hp : ∀ x y, Pure Try.prog gf ([.agg (encE x), .agg (encE y)] ++ caps) (If .i64 (c x y)))
    (X M Y L T : List Edg) (N : Nat) (a b : Int) (hN : N = X.length + M.length + Y.length) (hn : N ≤ 2000000) (ha : a = X.length) (hb : b = (X.length + M.length : Nat)) (hL : L = X ++ (M ++ Y)) (hT : T = X ++ (srtS (ltS c) M ++ Y)) :
    Meets Try.prog 36 [.sl 0 3 0 N, IV .i64 a, IV .i64 b, (PV.fz (.clo gf caps))] 1 [(0, OE L)] (.fz (.tup [])) [(0, OE T)] 1 := by
  subst ha; subst hb; subst hL; subst hT
  refine Meets.intro Try.func36 rfl (Nat.le_of_ble_eq_true rfl) fun C hC => ?_
  simp only [List.map, argEnv, Nat.reduceAdd]
  refine nK ?_
  refine s_reg rfl ?_
  first | refine Run.pure (dd := some 10) rfl rfl (op_move rfl (Opd.tmp _ _ rfl)) ?_ | refine Run.pure (dd := some 10) rfl rfl (op_junk (.inl rfl)) ?_
  refine Run.pure (dd := some 11) rfl rfl (op_add rfl (Opd.tmp _ _ rfl) (Opd.const _) tI) ?_
  first | refine Run.pure (dd := some 8) rfl rfl (op_assign rfl (Opd.tmp _ _ rfl)) ?_ | refine Run.pure (dd := some 8) rfl rfl (op_junk (.inr rfl)) ?_
  refine Run.nil (FinR.mk ?_)
  refine nK ?_
  refine n_loop (ι := Nat) (fun i => ([(0, .sl 0 3 0 N), (1, IV .i64 X.length), (2, IV .i64 (X.length + M.length : Nat)), (3, (PV.fz (.clo gf caps))), (8, IV .i64 (X.length + i : Nat))], [(0, OE (X ++ (srtS (ltS c) (M.take i) ++ (M.drop i ++ Y))))], 1)) (fun i => 1 ≤ i ∧ i ≤ max 1 M.length) (fun i => M.length - i) 1 ⟨Nat.le_refl _, Nat.le_max_left _ _⟩ ?_ ?_
  · have e1 : srtS (ltS c) (M.take 1) ++ (M.drop 1 ++ Y) = M ++ Y := by
      cases M with
      | nil => simp [srtS]
      | cons m M => simp [srtS, mrg]
    dsimp only
    rw [e1]
    refine Next.weakS [0] [] (by rfl) (by first | exact keeps0 hC _ | exact keepsN hC _ rfl) (by repeat (first | exact trivial | refine ⟨⟨_, rfl, .inl ⟨rfl, rfl⟩⟩, ?_⟩ | refine ⟨⟨_, rfl, .inl ⟨slEq rfl tN, rfl⟩⟩, ?_⟩ | refine ⟨⟨_, rfl, .inl ⟨ivEq tX, rfl⟩⟩, ?_⟩)) (by repeat (first | exact trivial | refine ⟨ent_same rfl rfl rfl tL, ?_⟩ | refine ⟨ent_same rfl rfl (rfEq rfl tU) tL, ?_⟩ | refine ⟨ent_same rfl rfl (flEq rfl (by first | (simp; done) | (simp; omega) | (simp [encE]; done) | simp [maxC, minC])) trivial, ?_⟩)) rfl (rel_intro)
  · intro i ⟨hi1, hi2⟩ K hK
    dsimp only at hK ⊢
    refine nK ?_
    refine s_reg rfl ?_
    first | refine Run.pure (dd := some 12) rfl rfl (op_move rfl (Opd.tmp _ _ rfl)) ?_ | refine Run.pure (dd := some 12) rfl rfl (op_junk (.inl rfl)) ?_
    first | refine Run.pure (dd := some 13) rfl rfl (op_move rfl (Opd.tmp _ _ rfl)) ?_ | refine Run.pure (dd := some 13) rfl rfl (op_junk (.inl rfl)) ?_
    refine Run.pure (dd := some 14) rfl rfl (op_lss rfl (Opd.tmp _ _ rfl) (Opd.tmp _ _ rfl)) ?_
    refine Run.nil (FinR.mk ?_)
    refine nK ?_
    refine n_cond _ rfl (fun hb => ?_) (fun hb => ?_)
    · have hlt : i < M.length := by have := of_decide_eq_true hb; omega
      have hSl : (srtS (ltS c) (M.take i)).length = i := by rw [srtS_len]; simp; omega
      have hSs : Srt (ltS c) (srtS (ltS c) (M.take i)) := srtS_srt o _
      have hK1 := hK (i + 1) ⟨by omega, by omega⟩ (by omega)
      rw [List.take_succ_eq_append_getElem hlt, srtS_snoc] at hK1
      rw [List.drop_eq_getElem_cons hlt]
      generalize srtS (ltS c) (M.take i) = S at *
      generalize M[i] = x at *
      generalize M.drop (i + 1) = R0 at *
      have e0 : X ++ (S ++ (x :: R0 ++ Y)) = X ++ (S.take i ++ x :: (S.drop i ++ (R0 ++ Y))) := by
        rw [List.take_of_length_le (by omega), List.drop_eq_nil_of_le (by omega)]; rfl
      rw [e0]
      refine nK ?_
      refine s_reg rfl ?_
      first | refine Run.pure (dd := some 17) rfl rfl (op_move rfl (Opd.tmp _ _ rfl)) ?_ | refine Run.pure (dd := some 17) rfl rfl (op_junk (.inl rfl)) ?_
      first | refine Run.pure (dd := some 9) rfl rfl (op_assign rfl (Opd.tmp _ _ rfl)) ?_ | refine Run.pure (dd := some 9) rfl rfl (op_junk (.inr rfl)) ?_
      refine Run.nil (FinR.mk ?_)
      refine nK ?_
      refine n_loop (ι := Nat) (fun k => ([(0, .sl 0 3 0 N), (1, IV .i64 X.length), (2, IV .i64 (X.length + M.length : Nat)), (3, (PV.fz (.clo gf caps))), (8, IV .i64 (X.length + i : Nat)), (9, IV .i64 (X.length + k : Nat))], [(0, OE (X ++ (S.take k ++ x :: (S.drop k ++ (R0 ++ Y)))))], 1)) (fun k => k ≤ i ∧ (∀ h : k < S.length, ltS c x S[k] = true)) (fun k => k) i ⟨Nat.le_refl _, fun h => by omega⟩ ?_ ?_
      · refine Next.weakS [0] [] (by rfl) (by first | exact keeps0 hC _ | exact keepsN hC _ rfl) (by repeat (first | exact trivial | refine ⟨⟨_, rfl, .inl ⟨rfl, rfl⟩⟩, ?_⟩ | refine ⟨⟨_, rfl, .inl ⟨slEq rfl tN, rfl⟩⟩, ?_⟩ | refine ⟨⟨_, rfl, .inl ⟨ivEq tX, rfl⟩⟩, ?_⟩)) (by repeat (first | exact trivial | refine ⟨ent_same rfl rfl rfl tL, ?_⟩ | refine ⟨ent_same rfl rfl (rfEq rfl tU) tL, ?_⟩ | refine ⟨ent_same rfl rfl (flEq rfl (by first | (simp; done) | (simp; omega) | (simp [encE]; done) | simp [maxC, minC])) trivial, ?_⟩)) rfl (rel_intro)
      · intro k ⟨hk, hkk⟩ K2 hK2
        dsimp only at hK2 ⊢
        have hpi : k - 1 < S.length := by omega
        have ra : ((X ++ (S.take k ++ x :: (S.drop k ++ (R0 ++ Y)))).map encE)[X.length + k]? = some (encE x) := by rw [List.getElem?_map, ins_at (by omega)]; rfl
        have rp : 0 < k → ((X ++ (S.take k ++ x :: (S.drop k ++ (R0 ++ Y)))).map encE)[X.length + (k - 1)]? = some (encE S[k - 1]) := fun h => by rw [List.getElem?_map, ins_prev h (by omega)]; rfl
        have hK3 := fun h0 h1 h2 => hK2 (k - 1) ⟨h1, h2⟩ h0
        have hst := fun h : 0 < k => ins_step (S := S) (R := R0 ++ Y) (x := x) (X := X) h (by omega)
        have hone := one_right (y := x) o hSs (S := k) (by omega)
        generalize hq : S[k - 1] = q at *
        refine nK ?_
        refine s_draw mixed ?_
        first | refine Run.pure (dd := some 18) rfl rfl (op_move rfl (Opd.tmp _ _ rfl)) ?_ | refine Run.pure (dd := some 18) rfl rfl (op_junk (.inl rfl)) ?_
        first | refine Run.pure (dd := some 19) rfl rfl (op_move rfl (Opd.tmp _ _ rfl)) ?_ | refine Run.pure (dd := some 19) rfl rfl (op_junk (.inl rfl)) ?_
        refine Run.pure (dd := some 20) rfl rfl (op_gtr rfl (Opd.tmp _ _ rfl) (Opd.tmp _ _ rfl)) ?_
        first | refine Run.pure (dd := some 21) rfl rfl (op_move rfl (Opd.tmp _ _ rfl)) ?_ | refine Run.pure (dd := some 21) rfl rfl (op_junk (.inl rfl)) ?_
        first | refine Run.pureG (dd := some 22) rfl rfl rfl tG (op_move rfl (Opd.tmp _ _ rfl)) ?_ | refine Run.pureG (dd := some 22) rfl rfl rfl tG (op_junk (.inl rfl)) ?_
        first | refine Run.pureG (dd := some 23) rfl rfl rfl tG (op_move rfl (Opd.tmp _ _ rfl)) ?_ | refine Run.pureG (dd := some 23) rfl rfl rfl tG (op_junk (.inl rfl)) ?_
        first | refine Run.pureG (dd := some 24) rfl rfl rfl tG (op_move rfl (Opd.tmp _ _ rfl)) ?_ | refine Run.pureG (dd := some 24) rfl rfl rfl tG (op_junk (.inl rfl)) ?_
        refine Run.pureG (dd := some 25) rfl rfl rfl tG (op_idx_sl0 (X.length + k) rfl (Opd.topt _ _ _ rfl tO) (Opd.topt _ _ _ rfl tO) (by intro _; constructor <;> omega)) ?_
        refine Run.loadG (dd := some 26) rfl rfl rfl tG (op_loadw_flat rfl (Opd.topt _ _ _ rfl tO) (by intro _; exact ⟨rfl, ra⟩) rfl) ?_
        first | refine Run.pureG (dd := some 27) rfl rfl rfl tG (op_move rfl (Opd.tmp _ _ rfl)) ?_ | refine Run.pureG (dd := some 27) rfl rfl rfl tG (op_junk (.inl rfl)) ?_
        first | refine Run.pureG (dd := some 28) rfl rfl rfl tG (op_move rfl (Opd.tmp _ _ rfl)) ?_ | refine Run.pureG (dd := some 28) rfl rfl rfl tG (op_junk (.inl rfl)) ?_
        refine Run.pureG (dd := some 29) rfl rfl rfl tG (op_sub rfl (Opd.topt _ _ _ rfl tO) (Opd.const _) tI) ?_
        refine Run.pureG (dd := some 30) rfl rfl rfl tG (op_idx_sl0 (X.length + (k - 1)) rfl (Opd.topt _ _ _ rfl tO) (Opd.topt _ _ _ rfl tO) (by intro hg; simp at hg; constructor <;> omega)) ?_
        refine Run.loadG (dd := some 31) rfl rfl rfl tG (op_loadw_flat rfl (Opd.topt _ _ _ rfl tO) (by intro hg; exact ⟨rfl, rp (by simp at hg; omega)⟩) rfl) ?_
        refine Run.pureG (dd := some 32) rfl rfl rfl tG (op_call_pureC (fun _ => hp x q) rfl (Opd.topt _ _ _ rfl tO) (Opds.cons _ _ _ _ (Opd.topt _ _ _ rfl tO) (Opds.cons _ _ _ _ (Opd.topt _ _ _ rfl tO) Opds.nil))) ?_
        refine Run.pureG (dd := some 33) rfl rfl rfl tG (op_lss rfl (Opd.topt _ _ _ rfl tO) (Opd.const _)) ?_
        refine Run.pure (dd := some 34) rfl rfl (op_pick_and rfl (Opd.tmp _ _ rfl) (Opd.topt _ _ _ rfl tO)) ?_
        refine Run.nil (FinD.mk (by kernel_rfl) ?_)
        refine nK ?_
        refine n_cond _ rfl (fun hb => ?_) (fun hb => ?_)
        · have hb2 : 0 < k ∧ c x q < 0 := by simp at hb; exact ⟨by omega, hb.2⟩
          obtain ⟨hk0, hcx⟩ := hb2
          have rp' := rp hk0
          have rp2 : ∀ z, (((X ++ (S.take k ++ x :: (S.drop k ++ (R0 ++ Y)))).map encE).set (X.length + k) z)[X.length + (k - 1)]? = some (encE q) := fun z => by rw [List.getElem?_set_ne (by omega)]; exact rp'
          have hK4 := hK3 (by omega) (by omega) (fun h => by rw [hq]; exact decide_eq_true hcx)
          have hst' := hst hk0
          rw [← hst'] at hK4
          rw [hq] at hK4
          generalize X ++ (S.take k ++ x :: (S.drop k ++ (R0 ++ Y))) = W at *
          refine nK ?_
          refine s_draw mixed ?_
          first | refine Run.pure (dd := some 37) rfl rfl (op_move rfl (Opd.tmp _ _ rfl)) ?_ | refine Run.pure (dd := some 37) rfl rfl (op_junk (.inl rfl)) ?_
          first | refine Run.pure (dd := some 38) rfl rfl (op_move rfl (Opd.tmp _ _ rfl)) ?_ | refine Run.pure (dd := some 38) rfl rfl (op_junk (.inl rfl)) ?_
          first | refine Run.pure (dd := some 39) rfl rfl (op_move rfl (Opd.tmp _ _ rfl)) ?_ | refine Run.pure (dd := some 39) rfl rfl (op_junk (.inl rfl)) ?_
          first | refine Run.pure (dd := some 40) rfl rfl (op_move rfl (Opd.tmp _ _ rfl)) ?_ | refine Run.pure (dd := some 40) rfl rfl (op_junk (.inl rfl)) ?_
          refine Run.pure (dd := some 41) rfl rfl (op_sub rfl (Opd.tmp _ _ rfl) (Opd.const _) tI) ?_
          first | refine Run.pure (dd := some 42) rfl rfl (op_move rfl (Opd.tmp _ _ rfl)) ?_ | refine Run.pure (dd := some 42) rfl rfl (op_junk (.inl rfl)) ?_
          first | refine Run.pure (dd := some 43) rfl rfl (op_move rfl (Opd.tmp _ _ rfl)) ?_ | refine Run.pure (dd := some 43) rfl rfl (op_junk (.inl rfl)) ?_
          refine Run.pure (dd := some 44) rfl rfl (op_sub rfl (Opd.tmp _ _ rfl) (Opd.const _) tI) ?_
          refine Run.pure (dd := some 45) rfl rfl (op_idx_sl0 (X.length + (k - 1)) rfl (Opd.tmp _ _ rfl) (Opd.tmp _ _ rfl) (by intro _; constructor <;> omega)) ?_
          refine Run.load (dd := some 46) rfl rfl (op_loadw_flat rfl (Opd.tmp _ _ rfl) (by intro _; exact ⟨rfl, rp'⟩) rfl) ?_
          first | refine Run.pure (dd := some 47) rfl rfl (op_move rfl (Opd.tmp _ _ rfl)) ?_ | refine Run.pure (dd := some 47) rfl rfl (op_junk (.inl rfl)) ?_
          first | refine Run.pure (dd := some 48) rfl rfl (op_move rfl (Opd.tmp _ _ rfl)) ?_ | refine Run.pure (dd := some 48) rfl rfl (op_junk (.inl rfl)) ?_
          refine Run.pure (dd := some 49) rfl rfl (op_idx_sl0 (X.length + k) rfl (Opd.tmp _ _ rfl) (Opd.tmp _ _ rfl) (by intro _; constructor <;> omega)) ?_
          refine Run.load (dd := some 50) rfl rfl (op_loadw_flat rfl (Opd.tmp _ _ rfl) (by intro _; exact ⟨rfl, ra⟩) rfl) ?_
          refine Run.pure (dd := some 51) rfl rfl (op_idx_sl0 (X.length + k) rfl (Opd.tmp _ _ rfl) (Opd.tmp _ _ rfl) (by intro _; constructor <;> omega)) ?_
          refine Run.effW (dd := none) rfl rfl (op_store_flat rfl (Opd.tmp _ _ rfl) (Opd.tmp _ _ rfl) tC rfl rfl ra tS) tE ?_
          refine Run.pure (dd := some 52) rfl rfl (op_idx_sl0 (X.length + (k - 1)) rfl (Opd.tmp _ _ rfl) (Opd.tmp _ _ rfl) (by intro _; constructor <;> omega)) ?_
          refine Run.effW (dd := none) rfl rfl (op_store_flat rfl (Opd.tmp _ _ rfl) (Opd.tmp _ _ rfl) tC rfl rfl (rp2 _) tS) tE ?_
          refine Run.nil (FinD.mk (by kernel_rfl) ?_)
          refine nK ?_
          refine s_reg rfl ?_
          first | refine Run.pure (dd := some 35) rfl rfl (op_move rfl (Opd.tmp _ _ rfl)) ?_ | refine Run.pure (dd := some 35) rfl rfl (op_junk (.inl rfl)) ?_
          refine Run.pure (dd := some 36) rfl rfl (op_sub rfl (Opd.tmp _ _ rfl) (Opd.const _) tI) ?_
          first | refine Run.pure (dd := some 9) rfl rfl (op_assign rfl (Opd.tmp _ _ rfl)) ?_ | refine Run.pure (dd := some 9) rfl rfl (op_junk (.inr rfl)) ?_
          refine Run.nil (FinR.mk ?_)
          refine nK ?_
          refine Next.weak [0] [] (by rfl) (keepsN hC _ rfl) (by repeat (first | exact trivial | refine ⟨⟨_, rfl, .inl ⟨rfl, rfl⟩⟩, ?_⟩ | refine ⟨⟨_, rfl, .inl ⟨slEq rfl tN, rfl⟩⟩, ?_⟩ | refine ⟨⟨_, rfl, .inl ⟨ivEq tX, rfl⟩⟩, ?_⟩)) (by exact ⟨ent_same rfl rfl (flEq rfl (by rw [List.map_set, List.map_set])) trivial, trivial⟩) (fun _ h => by simp at h) hK4
        · have hb2 : ¬ (0 < k ∧ c x q < 0) := by
            intro ⟨h1, h2⟩
            simp at hb; exact absurd h2 (by have := hb (by omega); omega)
          have e5 := hone (fun h => by
            have : ¬ c x q < 0 := fun h2 => hb2 ⟨h, h2⟩
            rw [hq]; exact decide_eq_false this) (fun h => hkk h)
          rw [e5] at hK1
          have e6 : X ++ ((S.take k ++ x :: S.drop k) ++ (R0 ++ Y)) = X ++ (S.take k ++ x :: (S.drop k ++ (R0 ++ Y))) := by simp
          rw [e6] at hK1
          refine nK ?_
          refine s_reg rfl ?_
          first | refine Run.pure (dd := some 15) rfl rfl (op_move rfl (Opd.tmp _ _ rfl)) ?_ | refine Run.pure (dd := some 15) rfl rfl (op_junk (.inl rfl)) ?_
          refine Run.pure (dd := some 16) rfl rfl (op_add rfl (Opd.tmp _ _ rfl) (Opd.const _) tI) ?_
          first | refine Run.pure (dd := some 8) rfl rfl (op_assign rfl (Opd.tmp _ _ rfl)) ?_ | refine Run.pure (dd := some 8) rfl rfl (op_junk (.inr rfl)) ?_
          refine Run.nil (FinR.mk ?_)
          refine nK ?_
          refine Next.weakS [0] [] (by rfl) (by first | exact keeps0 hC _ | exact keepsN hC _ rfl) (by repeat (first | exact trivial | refine ⟨⟨_, rfl, .inl ⟨rfl, rfl⟩⟩, ?_⟩ | refine ⟨⟨_, rfl, .inl ⟨slEq rfl tN, rfl⟩⟩, ?_⟩ | refine ⟨⟨_, rfl, .inl ⟨ivEq tX, rfl⟩⟩, ?_⟩)) (by repeat (first | exact trivial | refine ⟨ent_same rfl rfl rfl tL, ?_⟩ | refine ⟨ent_same rfl rfl (rfEq rfl tU) tL, ?_⟩ | refine ⟨ent_same rfl rfl (flEq rfl (by first | (simp; done) | (simp; omega) | (simp [encE]; done) | simp [maxC, minC])) trivial, ?_⟩)) rfl (hK1)
    · have hie : M.length ≤ i := by have := of_decide_eq_false hb; omega
      rw [List.take_of_length_le hie, List.drop_eq_nil_of_le hie]
      refine nK ?_
      refine Next.weak [0] [] (by rfl) (keepsN hC _ rfl) (G' := []) (H' := [(0, OE (X ++ (srtS (ltS c) M ++ Y)))]) trivial (by exact ⟨ent_same rfl rfl rfl tL, trivial⟩) (fun _ h => by simp at h) ?_
      exact n_out0 rfl
end Go.Proofs.Ytdbdajokdipmlaa
namespace Go.Proofs.Ytdbdajokdipmlaa
open Go Go.RT Go.Proofs Go.Pl
set_option linter.all false
set_option maxRecDepth 20000
set_option maxHeartbeats 4000000
theorem rotate_i (gf : Nat) (caps : List FV) (X U V Y L T : List Edg) (N : Nat) (a m b : Int) (hN : N = X.length + U.length + V.length + Y.length) (hn : N ≤ 2000000) (hu : 0 < U.length) (hv : 0 < V.length) (ha : a = X.length) (hm : m = (X.length + U.length : Nat)) (hb : b = (X.length + U.length + V.length : Nat)) (hL : L = X ++ (U ++ (V ++ Y))) (hT : T = X ++ (V ++ (U ++ Y))) :
    Meets Try.prog 44 [.sl 0 3 0 N, IV .i64 a, IV .i64 m, IV .i64 b, (PV.fz (.clo gf caps))] 1 [(0, OE L)] (.fz (.tup [])) [(0, OE T)] 1 := by
  subst ha; subst hm; subst hb; subst hL; subst hT
  exact rotate_c gf caps X U V Y N hN hn hu hv
theorem sym_c (gf : Nat) [FnB Try.prog gf] (caps : List FV) (c : Edg → Edg → Int) (o : Go.Pl.SW (ltS c)) (hp : ∀ x y, Pure Try.prog gf ([.agg (encE x), .agg (encE y)] ++ caps) (If .i64 (c x y))) (N : Nat) (hn : N ≤ 2000000) :
    ∀ (kk : Nat) (X A B Y L T : List Edg) (a m b : Int), A.length + B.length ≤ kk → 0 < A.length → 0 < B.length → Srt (ltS c) A → Srt (ltS c) B → N = X.length + A.length + B.length + Y.length → a = X.length → m = (X.length + A.length : Nat) → b = (X.length + A.length + B.length : Nat) → L = X ++ (A ++ (B ++ Y)) → T = X ++ (mrg (ltS c) A B ++ Y) →
    Meets Try.prog 37 [.sl 0 3 0 N, IV .i64 a, IV .i64 m, IV .i64 b, (PV.fz (.clo gf caps))] 1 [(0, OE L)] (.fz (.tup [])) [(0, OE T)] 1 := by
  intro kk
  induction kk with
  | zero => intro X A B Y L T a m b h1 h2; omega
  | succ kk ih =>
  intro X A B Y L T a m b hk hA hB sA sB hN ha hm hb hL hT
  subst ha; subst hm; subst hb; subst hL; subst hT
  refine Meets.intro Try.func37 rfl (Nat.le_of_ble_eq_true rfl) fun C hC => ?_
  simp only [List.map, argEnv, Nat.reduceAdd]
  refine nK ?_
  refine s_reg rfl ?_
  first | refine Run.pure (dd := some 25) rfl rfl (op_move rfl (Opd.tmp _ _ rfl)) ?_ | refine Run.pure (dd := some 25) rfl rfl (op_junk (.inl rfl)) ?_
  first | refine Run.pure (dd := some 26) rfl rfl (op_move rfl (Opd.tmp _ _ rfl)) ?_ | refine Run.pure (dd := some 26) rfl rfl (op_junk (.inl rfl)) ?_
  refine Run.pure (dd := some 27) rfl rfl (op_sub rfl (Opd.tmp _ _ rfl) (Opd.tmp _ _ rfl) tI) ?_
  refine Run.pure (dd := some 28) rfl rfl (op_eql rfl (Opd.tmp _ _ rfl) (Opd.const _)) ?_
  refine Run.nil (FinR.mk ?_)
  refine nK ?_
  refine n_cond _ rfl (fun hb => ?_) (fun hb => ?_)
  · have hp1 : A.length = 1 := by have := of_decide_eq_true hb; omega
    obtain ⟨x, rfl⟩ := List.length_eq_one_iff.1 hp1
    clear ih hb hk hA
    simp only [List.length_singleton] at *
    have rx : (X ++ ([x] ++ (B ++ Y)))[X.length]? = some x := get_at_len
    have rb : ∀ h (hh : h < B.length), (X ++ ([x] ++ (B ++ Y)))[X.length + 1 + h]? = some B[h] := fun h hh => by
      rw [List.getElem?_append_right (by omega), List.getElem?_append_right (by simp; omega), List.getElem?_append_left (by simp; omega)]
      rw [show X.length + 1 + h - X.length - [x].length = h by simp; omega]
      exact List.getElem?_eq_getElem _
    refine nK ?_
    refine s_reg rfl ?_
    first | refine Run.pure (dd := some 29) rfl rfl (op_move rfl (Opd.tmp _ _ rfl)) ?_ | refine Run.pure (dd := some 29) rfl rfl (op_junk (.inl rfl)) ?_
    first | refine Run.pure (dd := some 10) rfl rfl (op_assign rfl (Opd.tmp _ _ rfl)) ?_ | refine Run.pure (dd := some 10) rfl rfl (op_junk (.inr rfl)) ?_
    refine Run.nil (FinR.mk ?_)
    refine nK ?_
    refine s_reg rfl ?_
    first | refine Run.pure (dd := some 30) rfl rfl (op_move rfl (Opd.tmp _ _ rfl)) ?_ | refine Run.pure (dd := some 30) rfl rfl (op_junk (.inl rfl)) ?_
    first | refine Run.pure (dd := some 11) rfl rfl (op_assign rfl (Opd.tmp _ _ rfl)) ?_ | refine Run.pure (dd := some 11) rfl rfl (op_junk (.inr rfl)) ?_
    refine Run.nil (FinR.mk ?_)
    refine nK ?_
    refine n_loop (ι := Nat × Nat) (fun s => ([(0, .sl 0 3 0 N), (1, IV .i64 X.length), (4, (PV.fz (.clo gf caps))), (10, IV .i64 (X.length + 1 + s.1 : Nat)), (11, IV .i64 (X.length + 1 + s.2 : Nat))], [(0, OE (X ++ ([x] ++ (B ++ Y))))], 1)) (fun s => s.1 ≤ s.2 ∧ s.2 ≤ B.length ∧ (∀ (h : 0 < s.1) (h2 : s.1 - 1 < B.length), ltS c B[s.1 - 1] x = true) ∧ (∀ h : s.2 < B.length, ltS c B[s.2] x = false)) (fun s => s.2 - s.1) (0, B.length) ⟨Nat.zero_le _, Nat.le_refl _, fun h => by simp at h, fun h => by simp at h⟩ ?_ ?_
    · refine Next.weakS [0] [] (by rfl) (by first | exact keeps0 hC _ | exact keepsN hC _ rfl) (by repeat (first | exact trivial | refine ⟨⟨_, rfl, .inl ⟨rfl, rfl⟩⟩, ?_⟩ | refine ⟨⟨_, rfl, .inl ⟨slEq rfl tN, rfl⟩⟩, ?_⟩ | refine ⟨⟨_, rfl, .inl ⟨ivEq tX, rfl⟩⟩, ?_⟩)) (by repeat (first | exact trivial | refine ⟨ent_same rfl rfl rfl tL, ?_⟩ | refine ⟨ent_same rfl rfl (rfEq rfl tU) tL, ?_⟩ | refine ⟨ent_same rfl rfl (flEq rfl (by first | (simp; done) | (simp; omega) | (simp [encE]; done) | simp [maxC, minC])) trivial, ?_⟩)) rfl (rel_intro)
    · intro ⟨i, j⟩ ⟨h1, h2, h3, h4⟩ K hK
      dsimp only at h1 h2 h3 h4 hK ⊢
      refine nK ?_
      refine s_reg rfl ?_
      first | refine Run.pure (dd := some 31) rfl rfl (op_move rfl (Opd.tmp _ _ rfl)) ?_ | refine Run.pure (dd := some 31) rfl rfl (op_junk (.inl rfl)) ?_
      first | refine Run.pure (dd := some 32) rfl rfl (op_move rfl (Opd.tmp _ _ rfl)) ?_ | refine Run.pure (dd := some 32) rfl rfl (op_junk (.inl rfl)) ?_
      refine Run.pure (dd := some 33) rfl rfl (op_lss rfl (Opd.tmp _ _ rfl) (Opd.tmp _ _ rfl)) ?_
      refine Run.nil (FinR.mk ?_)
      refine nK ?_
      refine n_cond _ rfl (fun hb => ?_) (fun hb => ?_)
      · have hij : i < j := by have := of_decide_eq_true hb; omega
        have hh : (i + j) / 2 < B.length := by omega
        have hrb := rb _ hh
        have hra : ((X ++ ([x] ++ (B ++ Y))).map encE)[X.length]? = some (encE x) := by rw [List.getElem?_map, rx]; rfl
        have hrb : ((X ++ ([x] ++ (B ++ Y))).map encE)[X.length + 1 + (i + j) / 2]? = some (encE B[(i + j) / 2]) := by rw [List.getElem?_map, hrb]; rfl
        have hKa := fun (hq : ltS c B[(i + j) / 2] x = true) => hK ((i + j) / 2 + 1, j) ⟨by dsimp only; omega, h2, fun _ _ => hq, h4⟩ (by dsimp only; omega)
        have hKb := fun (hq : ltS c B[(i + j) / 2] x = false) => hK (i, (i + j) / 2) ⟨by dsimp only; omega, by dsimp only; omega, h3, fun _ => hq⟩ (by dsimp only; omega)
        generalize B[(i + j) / 2] = z at *
        dsimp only at hKa hKb
        refine nK ?_
        refine s_reg rfl ?_
        first | refine Run.pure (dd := some 34) rfl rfl (op_move rfl (Opd.tmp _ _ rfl)) ?_ | refine Run.pure (dd := some 34) rfl rfl (op_junk (.inl rfl)) ?_
        first | refine Run.pure (dd := some 35) rfl rfl (op_move rfl (Opd.tmp _ _ rfl)) ?_ | refine Run.pure (dd := some 35) rfl rfl (op_junk (.inl rfl)) ?_
        refine Run.pure (dd := some 36) rfl rfl (op_add rfl (Opd.tmp _ _ rfl) (Opd.tmp _ _ rfl) tI) ?_
        refine Run.pure (dd := some 37) rfl rfl (op_conv rfl (Opd.tmp _ _ rfl) tI) ?_
        refine Run.pure (dd := some 38) rfl rfl (op_shr (n := 1) rfl (Opd.tmp _ _ rfl) (Opd.const _) (by intro _; simp only [IntKind.bits]; omega)) ?_
        refine Run.pure (dd := some 39) rfl rfl (op_conv rfl (Opd.tmp _ _ rfl) tI) ?_
        first | refine Run.pure (dd := some 12) rfl rfl (op_assign rfl (Opd.tmp _ _ rfl)) ?_ | refine Run.pure (dd := some 12) rfl rfl (op_junk (.inr rfl)) ?_
        refine Run.nil (FinR.mk ?_)
        refine nK ?_
        refine s_draw mixed ?_
        first | refine Run.pure (dd := some 40) rfl rfl (op_move rfl (Opd.tmp _ _ rfl)) ?_ | refine Run.pure (dd := some 40) rfl rfl (op_junk (.inl rfl)) ?_
        first | refine Run.pure (dd := some 41) rfl rfl (op_move rfl (Opd.tmp _ _ rfl)) ?_ | refine Run.pure (dd := some 41) rfl rfl (op_junk (.inl rfl)) ?_
        first | refine Run.pure (dd := some 42) rfl rfl (op_move rfl (Opd.tmp _ _ rfl)) ?_ | refine Run.pure (dd := some 42) rfl rfl (op_junk (.inl rfl)) ?_
        refine Run.pure (dd := some 43) rfl rfl (op_idx_sl0 (X.length + 1 + (i + j) / 2) rfl (Opd.tmp _ _ rfl) (Opd.tmp _ _ rfl) (by intro _; constructor <;> omega)) ?_
        refine Run.load (dd := some 44) rfl rfl (op_loadw_flat rfl (Opd.tmp _ _ rfl) (by intro _; exact ⟨rfl, hrb⟩) rfl) ?_
        first | refine Run.pure (dd := some 45) rfl rfl (op_move rfl (Opd.tmp _ _ rfl)) ?_ | refine Run.pure (dd := some 45) rfl rfl (op_junk (.inl rfl)) ?_
        first | refine Run.pure (dd := some 46) rfl rfl (op_move rfl (Opd.tmp _ _ rfl)) ?_ | refine Run.pure (dd := some 46) rfl rfl (op_junk (.inl rfl)) ?_
        refine Run.pure (dd := some 47) rfl rfl (op_idx_sl0 X.length rfl (Opd.tmp _ _ rfl) (Opd.tmp _ _ rfl) (by intro _; constructor <;> omega)) ?_
        refine Run.load (dd := some 48) rfl rfl (op_loadw_flat rfl (Opd.tmp _ _ rfl) (by intro _; exact ⟨rfl, hra⟩) rfl) ?_
        refine Run.pure (dd := some 49) rfl rfl (op_call_pureC (fun _ => hp z x) rfl (Opd.tmp _ _ rfl) (Opds.cons _ _ _ _ (Opd.tmp _ _ rfl) (Opds.cons _ _ _ _ (Opd.tmp _ _ rfl) Opds.nil))) ?_
        refine Run.pure (dd := some 50) rfl rfl (op_lss rfl (Opd.tmp _ _ rfl) (Opd.const _)) ?_
        refine Run.nil (FinD.mk (by kernel_rfl) ?_)
        refine nK ?_
        refine n_cond _ rfl (fun hb => ?_) (fun hb => ?_)
        · refine nK ?_
          refine s_reg rfl ?_
          first | refine Run.pure (dd := some 51) rfl rfl (op_move rfl (Opd.tmp _ _ rfl)) ?_ | refine Run.pure (dd := some 51) rfl rfl (op_junk (.inl rfl)) ?_
          refine Run.pure (dd := some 52) rfl rfl (op_add rfl (Opd.tmp _ _ rfl) (Opd.const _) tI) ?_
          first | refine Run.pure (dd := some 10) rfl rfl (op_assign rfl (Opd.tmp _ _ rfl)) ?_ | refine Run.pure (dd := some 10) rfl rfl (op_junk (.inr rfl)) ?_
          refine Run.nil (FinR.mk ?_)
          refine nK ?_
          refine Next.weakS [0] [] (by rfl) (by first | exact keeps0 hC _ | exact keepsN hC _ rfl) (by repeat (first | exact trivial | refine ⟨⟨_, rfl, .inl ⟨rfl, rfl⟩⟩, ?_⟩ | refine ⟨⟨_, rfl, .inl ⟨slEq rfl tN, rfl⟩⟩, ?_⟩ | refine ⟨⟨_, rfl, .inl ⟨ivEq tX, rfl⟩⟩, ?_⟩)) (by repeat (first | exact trivial | refine ⟨ent_same rfl rfl rfl tL, ?_⟩ | refine ⟨ent_same rfl rfl (rfEq rfl tU) tL, ?_⟩ | refine ⟨ent_same rfl rfl (flEq rfl (by first | (simp; done) | (simp; omega) | (simp [encE]; done) | simp [maxC, minC])) trivial, ?_⟩)) rfl ((hKa hb))
        · refine nK ?_
          refine s_reg rfl ?_
          first | refine Run.pure (dd := some 53) rfl rfl (op_move rfl (Opd.tmp _ _ rfl)) ?_ | refine Run.pure (dd := some 53) rfl rfl (op_junk (.inl rfl)) ?_
          first | refine Run.pure (dd := some 11) rfl rfl (op_assign rfl (Opd.tmp _ _ rfl)) ?_ | refine Run.pure (dd := some 11) rfl rfl (op_junk (.inr rfl)) ?_
          refine Run.nil (FinR.mk ?_)
          refine nK ?_
          refine Next.weakS [0] [] (by rfl) (by first | exact keeps0 hC _ | exact keepsN hC _ rfl) (by repeat (first | exact trivial | refine ⟨⟨_, rfl, .inl ⟨rfl, rfl⟩⟩, ?_⟩ | refine ⟨⟨_, rfl, .inl ⟨slEq rfl tN, rfl⟩⟩, ?_⟩ | refine ⟨⟨_, rfl, .inl ⟨ivEq tX, rfl⟩⟩, ?_⟩)) (by repeat (first | exact trivial | refine ⟨ent_same rfl rfl rfl tL, ?_⟩ | refine ⟨ent_same rfl rfl (rfEq rfl tU) tL, ?_⟩ | refine ⟨ent_same rfl rfl (flEq rfl (by first | (simp; done) | (simp; omega) | (simp [encE]; done) | simp [maxC, minC])) trivial, ?_⟩)) rfl ((hKb hb))
      · have hij : i = j := by have := of_decide_eq_false hb; omega
        subst hij
        have ho1 := one_left o sB h2 (fun h => h3 h _) h4
        refine nK ?_
        refine s_reg rfl ?_
        first | refine Run.pure (dd := some 54) rfl rfl (op_move rfl (Opd.tmp _ _ rfl)) ?_ | refine Run.pure (dd := some 54) rfl rfl (op_junk (.inl rfl)) ?_
        first | refine Run.pure (dd := some 13) rfl rfl (op_assign rfl (Opd.tmp _ _ rfl)) ?_ | refine Run.pure (dd := some 13) rfl rfl (op_junk (.inr rfl)) ?_
        refine Run.nil (FinR.mk ?_)
        refine nK ?_
        refine n_loop (ι := Nat) (fun k => ([(0, .sl 0 3 0 N), (10, IV .i64 (X.length + 1 + i : Nat)), (13, IV .i64 (X.length + k : Nat))], [(0, OE (X ++ (B.take k ++ x :: (B.drop k ++ Y))))], 1)) (fun k => k ≤ i) (fun k => i - k) 0 (Nat.zero_le _) ?_ ?_
        · refine Next.weakS [0] [] (by rfl) (by first | exact keeps0 hC _ | exact keepsN hC _ rfl) (by repeat (first | exact trivial | refine ⟨⟨_, rfl, .inl ⟨rfl, rfl⟩⟩, ?_⟩ | refine ⟨⟨_, rfl, .inl ⟨slEq rfl tN, rfl⟩⟩, ?_⟩ | refine ⟨⟨_, rfl, .inl ⟨ivEq tX, rfl⟩⟩, ?_⟩)) (by repeat (first | exact trivial | refine ⟨ent_same rfl rfl rfl tL, ?_⟩ | refine ⟨ent_same rfl rfl (rfEq rfl tU) tL, ?_⟩ | refine ⟨ent_same rfl rfl (flEq rfl (by first | (simp; done) | (simp; omega) | (simp [encE]; done) | simp [maxC, minC])) trivial, ?_⟩)) rfl (rel_intro)
        · intro k hki K2 hK2
          dsimp only at hK2 ⊢
          refine nK ?_
          refine s_reg rfl ?_
          first | refine Run.pure (dd := some 55) rfl rfl (op_move rfl (Opd.tmp _ _ rfl)) ?_ | refine Run.pure (dd := some 55) rfl rfl (op_junk (.inl rfl)) ?_
          first | refine Run.pure (dd := some 56) rfl rfl (op_move rfl (Opd.tmp _ _ rfl)) ?_ | refine Run.pure (dd := some 56) rfl rfl (op_junk (.inl rfl)) ?_
          refine Run.pure (dd := some 57) rfl rfl (op_sub rfl (Opd.tmp _ _ rfl) (Opd.const _) tI) ?_
          refine Run.pure (dd := some 58) rfl rfl (op_lss rfl (Opd.tmp _ _ rfl) (Opd.tmp _ _ rfl)) ?_
          refine Run.nil (FinR.mk ?_)
          refine nK ?_
          refine n_cond _ rfl (fun hb => ?_) (fun hb => ?_)
          · have hk1 : k < i := by have := of_decide_eq_true hb; omega
            have hkB : k < B.length := by omega
            have ra : ((X ++ (B.take k ++ x :: (B.drop k ++ Y))).map encE)[X.length + k]? = some (encE x) := by rw [List.getElem?_map, ins_at (by omega)]; rfl
            have rn : ((X ++ (B.take k ++ x :: (B.drop k ++ Y))).map encE)[X.length + (k + 1)]? = some (encE B[k]) := by rw [List.getElem?_map, ins_next hkB]; rfl
            have rn2 : ∀ z, (((X ++ (B.take k ++ x :: (B.drop k ++ Y))).map encE).set (X.length + k) z)[X.length + (k + 1)]? = some (encE B[k]) := fun z => by rw [List.getElem?_set_ne (by omega)]; exact rn
            have hK3 := hK2 (k + 1) hk1 (by omega)
            rw [← ins_fwd hkB] at hK3
            generalize X ++ (B.take k ++ x :: (B.drop k ++ Y)) = W at *
            generalize B[k] = z at *
            refine nK ?_
            refine s_draw mixed ?_
            first | refine Run.pure (dd := some 61) rfl rfl (op_move rfl (Opd.tmp _ _ rfl)) ?_ | refine Run.pure (dd := some 61) rfl rfl (op_junk (.inl rfl)) ?_
            first | refine Run.pure (dd := some 62) rfl rfl (op_move rfl (Opd.tmp _ _ rfl)) ?_ | refine Run.pure (dd := some 62) rfl rfl (op_junk (.inl rfl)) ?_
            first | refine Run.pure (dd := some 63) rfl rfl (op_move rfl (Opd.tmp _ _ rfl)) ?_ | refine Run.pure (dd := some 63) rfl rfl (op_junk (.inl rfl)) ?_
            first | refine Run.pure (dd := some 64) rfl rfl (op_move rfl (Opd.tmp _ _ rfl)) ?_ | refine Run.pure (dd := some 64) rfl rfl (op_junk (.inl rfl)) ?_
            refine Run.pure (dd := some 65) rfl rfl (op_add rfl (Opd.tmp _ _ rfl) (Opd.const _) tI) ?_
            first | refine Run.pure (dd := some 66) rfl rfl (op_move rfl (Opd.tmp _ _ rfl)) ?_ | refine Run.pure (dd := some 66) rfl rfl (op_junk (.inl rfl)) ?_
            first | refine Run.pure (dd := some 67) rfl rfl (op_move rfl (Opd.tmp _ _ rfl)) ?_ | refine Run.pure (dd := some 67) rfl rfl (op_junk (.inl rfl)) ?_
            refine Run.pure (dd := some 68) rfl rfl (op_add rfl (Opd.tmp _ _ rfl) (Opd.const _) tI) ?_
            refine Run.pure (dd := some 69) rfl rfl (op_idx_sl0 (X.length + (k + 1)) rfl (Opd.tmp _ _ rfl) (Opd.tmp _ _ rfl) (by intro _; constructor <;> omega)) ?_
            refine Run.load (dd := some 70) rfl rfl (op_loadw_flat rfl (Opd.tmp _ _ rfl) (by intro _; exact ⟨rfl, rn⟩) rfl) ?_
            first | refine Run.pure (dd := some 71) rfl rfl (op_move rfl (Opd.tmp _ _ rfl)) ?_ | refine Run.pure (dd := some 71) rfl rfl (op_junk (.inl rfl)) ?_
            first | refine Run.pure (dd := some 72) rfl rfl (op_move rfl (Opd.tmp _ _ rfl)) ?_ | refine Run.pure (dd := some 72) rfl rfl (op_junk (.inl rfl)) ?_
            refine Run.pure (dd := some 73) rfl rfl (op_idx_sl0 (X.length + k) rfl (Opd.tmp _ _ rfl) (Opd.tmp _ _ rfl) (by intro _; constructor <;> omega)) ?_
            refine Run.load (dd := some 74) rfl rfl (op_loadw_flat rfl (Opd.tmp _ _ rfl) (by intro _; exact ⟨rfl, ra⟩) rfl) ?_
            refine Run.pure (dd := some 75) rfl rfl (op_idx_sl0 (X.length + k) rfl (Opd.tmp _ _ rfl) (Opd.tmp _ _ rfl) (by intro _; constructor <;> omega)) ?_
            refine Run.effW (dd := none) rfl rfl (op_store_flat rfl (Opd.tmp _ _ rfl) (Opd.tmp _ _ rfl) tC rfl rfl ra tS) tE ?_
            refine Run.pure (dd := some 76) rfl rfl (op_idx_sl0 (X.length + (k + 1)) rfl (Opd.tmp _ _ rfl) (Opd.tmp _ _ rfl) (by intro _; constructor <;> omega)) ?_
            refine Run.effW (dd := none) rfl rfl (op_store_flat rfl (Opd.tmp _ _ rfl) (Opd.tmp _ _ rfl) tC rfl rfl (rn2 _) tS) tE ?_
            refine Run.nil (FinD.mk (by kernel_rfl) ?_)
            refine nK ?_
            refine s_reg rfl ?_
            first | refine Run.pure (dd := some 59) rfl rfl (op_move rfl (Opd.tmp _ _ rfl)) ?_ | refine Run.pure (dd := some 59) rfl rfl (op_junk (.inl rfl)) ?_
            refine Run.pure (dd := some 60) rfl rfl (op_add rfl (Opd.tmp _ _ rfl) (Opd.const _) tI) ?_
            first | refine Run.pure (dd := some 13) rfl rfl (op_assign rfl (Opd.tmp _ _ rfl)) ?_ | refine Run.pure (dd := some 13) rfl rfl (op_junk (.inr rfl)) ?_
            refine Run.nil (FinR.mk ?_)
            refine nK ?_
            refine Next.weak [0] [] (by rfl) (keepsN hC _ rfl) (by repeat (first | exact trivial | refine ⟨⟨_, rfl, .inl ⟨rfl, rfl⟩⟩, ?_⟩ | refine ⟨⟨_, rfl, .inl ⟨slEq rfl tN, rfl⟩⟩, ?_⟩ | refine ⟨⟨_, rfl, .inl ⟨ivEq tX, rfl⟩⟩, ?_⟩)) (by exact ⟨ent_same rfl rfl (flEq rfl (by rw [List.map_set, List.map_set])) trivial, trivial⟩) (fun _ h => by simp at h) hK3
          · have hk1 : k = i := by have := of_decide_eq_false hb; omega
            subst hk1
            rw [ho1]
            have e9 : X ++ (B.take k ++ x :: B.drop k ++ Y) = X ++ (B.take k ++ x :: (B.drop k ++ Y)) := by simp
            rw [e9]
            refine nK ?_
            refine Next.weak [0] [] (by rfl) (keepsN hC _ rfl) (G' := []) (H' := [(0, OE (X ++ (B.take k ++ x :: (B.drop k ++ Y))))]) trivial (by exact ⟨ent_same rfl rfl rfl tL, trivial⟩) (fun _ h => by simp at h) ?_
            exact n_out0 rfl
  · have hp1 : A.length ≠ 1 := by simp at hb; omega
    clear hb
    refine nK ?_
    refine s_reg rfl ?_
    first | refine Run.pure (dd := some 77) rfl rfl (op_move rfl (Opd.tmp _ _ rfl)) ?_ | refine Run.pure (dd := some 77) rfl rfl (op_junk (.inl rfl)) ?_
    first | refine Run.pure (dd := some 78) rfl rfl (op_move rfl (Opd.tmp _ _ rfl)) ?_ | refine Run.pure (dd := some 78) rfl rfl (op_junk (.inl rfl)) ?_
    refine Run.pure (dd := some 79) rfl rfl (op_sub rfl (Opd.tmp _ _ rfl) (Opd.tmp _ _ rfl) tI) ?_
    refine Run.pure (dd := some 80) rfl rfl (op_eql rfl (Opd.tmp _ _ rfl) (Opd.const _)) ?_
    refine Run.nil (FinR.mk ?_)
    refine nK ?_
    refine n_cond _ rfl (fun hb => ?_) (fun hb => ?_)
    · have hq1 : B.length = 1 := by have := of_decide_eq_true hb; omega
      obtain ⟨y, rfl⟩ := List.length_eq_one_iff.1 hq1
      clear ih hb hk hB
      simp only [List.length_singleton] at *
      have ry : (X ++ (A ++ ([y] ++ Y)))[X.length + A.length]? = some y := by
        have := get_at_len (P := X ++ A) (R := Y) (u := y)
        simpa using this
      have rb : ∀ h (hh : h < A.length), (X ++ (A ++ ([y] ++ Y)))[X.length + h]? = some A[h] := fun h hh => by
        rw [List.getElem?_append_right (by omega), List.getElem?_append_left (by omega)]
        rw [show X.length + h - X.length = h by omega]
        exact List.getElem?_eq_getElem _
      refine nK ?_
      refine s_reg rfl ?_
      first | refine Run.pure (dd := some 81) rfl rfl (op_move rfl (Opd.tmp _ _ rfl)) ?_ | refine Run.pure (dd := some 81) rfl rfl (op_junk (.inl rfl)) ?_
      first | refine Run.pure (dd := some 14) rfl rfl (op_assign rfl (Opd.tmp _ _ rfl)) ?_ | refine Run.pure (dd := some 14) rfl rfl (op_junk (.inr rfl)) ?_
      refine Run.nil (FinR.mk ?_)
      refine nK ?_
      refine s_reg rfl ?_
      first | refine Run.pure (dd := some 82) rfl rfl (op_move rfl (Opd.tmp _ _ rfl)) ?_ | refine Run.pure (dd := some 82) rfl rfl (op_junk (.inl rfl)) ?_
      first | refine Run.pure (dd := some 15) rfl rfl (op_assign rfl (Opd.tmp _ _ rfl)) ?_ | refine Run.pure (dd := some 15) rfl rfl (op_junk (.inr rfl)) ?_
      refine Run.nil (FinR.mk ?_)
      refine nK ?_
      refine n_loop (ι := Nat × Nat) (fun s => ([(0, .sl 0 3 0 N), (2, IV .i64 (X.length + A.length : Nat)), (4, (PV.fz (.clo gf caps))), (14, IV .i64 (X.length + s.1 : Nat)), (15, IV .i64 (X.length + s.2 : Nat))], [(0, OE (X ++ (A ++ ([y] ++ Y))))], 1)) (fun s => s.1 ≤ s.2 ∧ s.2 ≤ A.length ∧ (∀ (h : 0 < s.1) (h2 : s.1 - 1 < A.length), ltS c y A[s.1 - 1] = false) ∧ (∀ h : s.2 < A.length, ltS c y A[s.2] = true)) (fun s => s.2 - s.1) (0, A.length) ⟨Nat.zero_le _, Nat.le_refl _, fun h => by simp at h, fun h => by simp at h⟩ ?_ ?_
      · refine Next.weakS [0] [] (by rfl) (by first | exact keeps0 hC _ | exact keepsN hC _ rfl) (by repeat (first | exact trivial | refine ⟨⟨_, rfl, .inl ⟨rfl, rfl⟩⟩, ?_⟩ | refine ⟨⟨_, rfl, .inl ⟨slEq rfl tN, rfl⟩⟩, ?_⟩ | refine ⟨⟨_, rfl, .inl ⟨ivEq tX, rfl⟩⟩, ?_⟩)) (by repeat (first | exact trivial | refine ⟨ent_same rfl rfl rfl tL, ?_⟩ | refine ⟨ent_same rfl rfl (rfEq rfl tU) tL, ?_⟩ | refine ⟨ent_same rfl rfl (flEq rfl (by first | (simp; done) | (simp; omega) | (simp [encE]; done) | simp [maxC, minC])) trivial, ?_⟩)) rfl (rel_intro)
      · intro ⟨i, j⟩ ⟨h1, h2, h3, h4⟩ K hK
        dsimp only at h1 h2 h3 h4 hK ⊢
        refine nK ?_
        refine s_reg rfl ?_
        first | refine Run.pure (dd := some 83) rfl rfl (op_move rfl (Opd.tmp _ _ rfl)) ?_ | refine Run.pure (dd := some 83) rfl rfl (op_junk (.inl rfl)) ?_
        first | refine Run.pure (dd := some 84) rfl rfl (op_move rfl (Opd.tmp _ _ rfl)) ?_ | refine Run.pure (dd := some 84) rfl rfl (op_junk (.inl rfl)) ?_
        refine Run.pure (dd := some 85) rfl rfl (op_lss rfl (Opd.tmp _ _ rfl) (Opd.tmp _ _ rfl)) ?_
        refine Run.nil (FinR.mk ?_)
        refine nK ?_
        refine n_cond _ rfl (fun hb => ?_) (fun hb => ?_)
        · have hij : i < j := by have := of_decide_eq_true hb; omega
          have hh : (i + j) / 2 < A.length := by omega
          have hrb := rb _ hh
          have hra : ((X ++ (A ++ ([y] ++ Y))).map encE)[X.length + A.length]? = some (encE y) := by rw [List.getElem?_map, ry]; rfl
          have hrb : ((X ++ (A ++ ([y] ++ Y))).map encE)[X.length + (i + j) / 2]? = some (encE A[(i + j) / 2]) := by rw [List.getElem?_map, hrb]; rfl
          have hKa := fun (hq : ltS c y A[(i + j) / 2] = false) => hK ((i + j) / 2 + 1, j) ⟨by dsimp only; omega, h2, fun _ _ => hq, h4⟩ (by dsimp only; omega)
          have hKb := fun (hq : ltS c y A[(i + j) / 2] = true) => hK (i, (i + j) / 2) ⟨by dsimp only; omega, by dsimp only; omega, h3, fun _ => hq⟩ (by dsimp only; omega)
          generalize A[(i + j) / 2] = z at *
          dsimp only at hKa hKb
          refine nK ?_
          refine s_reg rfl ?_
          first | refine Run.pure (dd := some 86) rfl rfl (op_move rfl (Opd.tmp _ _ rfl)) ?_ | refine Run.pure (dd := some 86) rfl rfl (op_junk (.inl rfl)) ?_
          first | refine Run.pure (dd := some 87) rfl rfl (op_move rfl (Opd.tmp _ _ rfl)) ?_ | refine Run.pure (dd := some 87) rfl rfl (op_junk (.inl rfl)) ?_
          refine Run.pure (dd := some 88) rfl rfl (op_add rfl (Opd.tmp _ _ rfl) (Opd.tmp _ _ rfl) tI) ?_
          refine Run.pure (dd := some 89) rfl rfl (op_conv rfl (Opd.tmp _ _ rfl) tI) ?_
          refine Run.pure (dd := some 90) rfl rfl (op_shr (n := 1) rfl (Opd.tmp _ _ rfl) (Opd.const _) (by intro _; simp only [IntKind.bits]; omega)) ?_
          refine Run.pure (dd := some 91) rfl rfl (op_conv rfl (Opd.tmp _ _ rfl) tI) ?_
          first | refine Run.pure (dd := some 16) rfl rfl (op_assign rfl (Opd.tmp _ _ rfl)) ?_ | refine Run.pure (dd := some 16) rfl rfl (op_junk (.inr rfl)) ?_
          refine Run.nil (FinR.mk ?_)
          refine nK ?_
          refine s_draw mixed ?_
          first | refine Run.pure (dd := some 92) rfl rfl (op_move rfl (Opd.tmp _ _ rfl)) ?_ | refine Run.pure (dd := some 92) rfl rfl (op_junk (.inl rfl)) ?_
          first | refine Run.pure (dd := some 93) rfl rfl (op_move rfl (Opd.tmp _ _ rfl)) ?_ | refine Run.pure (dd := some 93) rfl rfl (op_junk (.inl rfl)) ?_
          first | refine Run.pure (dd := some 94) rfl rfl (op_move rfl (Opd.tmp _ _ rfl)) ?_ | refine Run.pure (dd := some 94) rfl rfl (op_junk (.inl rfl)) ?_
          refine Run.pure (dd := some 95) rfl rfl (op_idx_sl0 (X.length + A.length) rfl (Opd.tmp _ _ rfl) (Opd.tmp _ _ rfl) (by intro _; constructor <;> omega)) ?_
          refine Run.load (dd := some 96) rfl rfl (op_loadw_flat rfl (Opd.tmp _ _ rfl) (by intro _; exact ⟨rfl, hra⟩) rfl) ?_
          first | refine Run.pure (dd := some 97) rfl rfl (op_move rfl (Opd.tmp _ _ rfl)) ?_ | refine Run.pure (dd := some 97) rfl rfl (op_junk (.inl rfl)) ?_
          first | refine Run.pure (dd := some 98) rfl rfl (op_move rfl (Opd.tmp _ _ rfl)) ?_ | refine Run.pure (dd := some 98) rfl rfl (op_junk (.inl rfl)) ?_
          refine Run.pure (dd := some 99) rfl rfl (op_idx_sl0 (X.length + (i + j) / 2) rfl (Opd.tmp _ _ rfl) (Opd.tmp _ _ rfl) (by intro _; constructor <;> omega)) ?_
          refine Run.load (dd := some 100) rfl rfl (op_loadw_flat rfl (Opd.tmp _ _ rfl) (by intro _; exact ⟨rfl, hrb⟩) rfl) ?_
          refine Run.pure (dd := some 101) rfl rfl (op_call_pureC (fun _ => hp y z) rfl (Opd.tmp _ _ rfl) (Opds.cons _ _ _ _ (Opd.tmp _ _ rfl) (Opds.cons _ _ _ _ (Opd.tmp _ _ rfl) Opds.nil))) ?_
          refine Run.pure (dd := some 102) rfl rfl (op_lss rfl (Opd.tmp _ _ rfl) (Opd.const _)) ?_
          refine Run.pure (dd := some 103) rfl rfl (op_not rfl (Opd.tmp _ _ rfl)) ?_
          refine Run.nil (FinD.mk (by kernel_rfl) ?_)
          refine nK ?_
          refine n_cond _ rfl (fun hb => ?_) (fun hb => ?_)
          · refine nK ?_
            refine s_reg rfl ?_
            first | refine Run.pure (dd := some 104) rfl rfl (op_move rfl (Opd.tmp _ _ rfl)) ?_ | refine Run.pure (dd := some 104) rfl rfl (op_junk (.inl rfl)) ?_
            refine Run.pure (dd := some 105) rfl rfl (op_add rfl (Opd.tmp _ _ rfl) (Opd.const _) tI) ?_
            first | refine Run.pure (dd := some 14) rfl rfl (op_assign rfl (Opd.tmp _ _ rfl)) ?_ | refine Run.pure (dd := some 14) rfl rfl (op_junk (.inr rfl)) ?_
            refine Run.nil (FinR.mk ?_)
            refine nK ?_
            refine Next.weakS [0] [] (by rfl) (by first | exact keeps0 hC _ | exact keepsN hC _ rfl) (by repeat (first | exact trivial | refine ⟨⟨_, rfl, .inl ⟨rfl, rfl⟩⟩, ?_⟩ | refine ⟨⟨_, rfl, .inl ⟨slEq rfl tN, rfl⟩⟩, ?_⟩ | refine ⟨⟨_, rfl, .inl ⟨ivEq tX, rfl⟩⟩, ?_⟩)) (by repeat (first | exact trivial | refine ⟨ent_same rfl rfl rfl tL, ?_⟩ | refine ⟨ent_same rfl rfl (rfEq rfl tU) tL, ?_⟩ | refine ⟨ent_same rfl rfl (flEq rfl (by first | (simp; done) | (simp; omega) | (simp [encE]; done) | simp [maxC, minC])) trivial, ?_⟩)) rfl ((hKa (by simpa using hb)))
          · refine nK ?_
            refine s_reg rfl ?_
            first | refine Run.pure (dd := some 106) rfl rfl (op_move rfl (Opd.tmp _ _ rfl)) ?_ | refine Run.pure (dd := some 106) rfl rfl (op_junk (.inl rfl)) ?_
            first | refine Run.pure (dd := some 15) rfl rfl (op_assign rfl (Opd.tmp _ _ rfl)) ?_ | refine Run.pure (dd := some 15) rfl rfl (op_junk (.inr rfl)) ?_
            refine Run.nil (FinR.mk ?_)
            refine nK ?_
            refine Next.weakS [0] [] (by rfl) (by first | exact keeps0 hC _ | exact keepsN hC _ rfl) (by repeat (first | exact trivial | refine ⟨⟨_, rfl, .inl ⟨rfl, rfl⟩⟩, ?_⟩ | refine ⟨⟨_, rfl, .inl ⟨slEq rfl tN, rfl⟩⟩, ?_⟩ | refine ⟨⟨_, rfl, .inl ⟨ivEq tX, rfl⟩⟩, ?_⟩)) (by repeat (first | exact trivial | refine ⟨ent_same rfl rfl rfl tL, ?_⟩ | refine ⟨ent_same rfl rfl (rfEq rfl tU) tL, ?_⟩ | refine ⟨ent_same rfl rfl (flEq rfl (by first | (simp; done) | (simp; omega) | (simp [encE]; done) | simp [maxC, minC])) trivial, ?_⟩)) rfl ((hKb (by simpa using hb)))
        · have hij : i = j := by have := of_decide_eq_false hb; omega
          subst hij
          have ho1 := one_right o sA h2 (fun h => h3 h _) h4
          refine nK ?_
          refine s_reg rfl ?_
          first | refine Run.pure (dd := some 107) rfl rfl (op_move rfl (Opd.tmp _ _ rfl)) ?_ | refine Run.pure (dd := some 107) rfl rfl (op_junk (.inl rfl)) ?_
          first | refine Run.pure (dd := some 17) rfl rfl (op_assign rfl (Opd.tmp _ _ rfl)) ?_ | refine Run.pure (dd := some 17) rfl rfl (op_junk (.inr rfl)) ?_
          refine Run.nil (FinR.mk ?_)
          refine nK ?_
          refine n_loop (ι := Nat) (fun k => ([(0, .sl 0 3 0 N), (14, IV .i64 (X.length + i : Nat)), (17, IV .i64 (X.length + k : Nat))], [(0, OE (X ++ (A.take k ++ y :: (A.drop k ++ Y))))], 1)) (fun k => i ≤ k ∧ k ≤ A.length) (fun k => k) A.length ⟨h2, Nat.le_refl _⟩ ?_ ?_
          · have e8 : X ++ (A.take A.length ++ y :: (A.drop A.length ++ Y)) = X ++ (A ++ ([y] ++ Y)) := by simp
            dsimp only
            rw [e8]
            refine Next.weakS [0] [] (by rfl) (by first | exact keeps0 hC _ | exact keepsN hC _ rfl) (by repeat (first | exact trivial | refine ⟨⟨_, rfl, .inl ⟨rfl, rfl⟩⟩, ?_⟩ | refine ⟨⟨_, rfl, .inl ⟨slEq rfl tN, rfl⟩⟩, ?_⟩ | refine ⟨⟨_, rfl, .inl ⟨ivEq tX, rfl⟩⟩, ?_⟩)) (by repeat (first | exact trivial | refine ⟨ent_same rfl rfl rfl tL, ?_⟩ | refine ⟨ent_same rfl rfl (rfEq rfl tU) tL, ?_⟩ | refine ⟨ent_same rfl rfl (flEq rfl (by first | (simp; done) | (simp; omega) | (simp [encE]; done) | simp [maxC, minC])) trivial, ?_⟩)) rfl (rel_intro)
          · intro k ⟨hki, hkA⟩ K2 hK2
            dsimp only at hK2 ⊢
            refine nK ?_
            refine s_reg rfl ?_
            first | refine Run.pure (dd := some 108) rfl rfl (op_move rfl (Opd.tmp _ _ rfl)) ?_ | refine Run.pure (dd := some 108) rfl rfl (op_junk (.inl rfl)) ?_
            first | refine Run.pure (dd := some 109) rfl rfl (op_move rfl (Opd.tmp _ _ rfl)) ?_ | refine Run.pure (dd := some 109) rfl rfl (op_junk (.inl rfl)) ?_
            refine Run.pure (dd := some 110) rfl rfl (op_gtr rfl (Opd.tmp _ _ rfl) (Opd.tmp _ _ rfl)) ?_
            refine Run.nil (FinR.mk ?_)
            refine nK ?_
            refine n_cond _ rfl (fun hb => ?_) (fun hb => ?_)
            · have hk1 : i < k := by have := of_decide_eq_true hb; omega
              have ra : ((X ++ (A.take k ++ y :: (A.drop k ++ Y))).map encE)[X.length + k]? = some (encE y) := by rw [List.getElem?_map, ins_at (by omega)]; rfl
              have hkp : k - 1 < A.length := by omega
              have rp : ((X ++ (A.take k ++ y :: (A.drop k ++ Y))).map encE)[X.length + (k - 1)]? = some (encE A[k - 1]) := by rw [List.getElem?_map, ins_prev (by omega) (by omega)]; rfl
              have rp2 : ∀ z, (((X ++ (A.take k ++ y :: (A.drop k ++ Y))).map encE).set (X.length + k) z)[X.length + (k - 1)]? = some (encE A[k - 1]) := fun z => by rw [List.getElem?_set_ne (by omega)]; exact rp
              have hK3 := hK2 (k - 1) ⟨by omega, by omega⟩ (by omega)
              rw [← ins_step (by omega) hkA] at hK3
              generalize X ++ (A.take k ++ y :: (A.drop k ++ Y)) = W at *
              generalize A[k - 1] = z at *
              refine nK ?_
              refine s_draw mixed ?_
              first | refine Run.pure (dd := some 113) rfl rfl (op_move rfl (Opd.tmp _ _ rfl)) ?_ | refine Run.pure (dd := some 113) rfl rfl (op_junk (.inl rfl)) ?_
              first | refine Run.pure (dd := some 114) rfl rfl (op_move rfl (Opd.tmp _ _ rfl)) ?_ | refine Run.pure (dd := some 114) rfl rfl (op_junk (.inl rfl)) ?_
              first | refine Run.pure (dd := some 115) rfl rfl (op_move rfl (Opd.tmp _ _ rfl)) ?_ | refine Run.pure (dd := some 115) rfl rfl (op_junk (.inl rfl)) ?_
              first | refine Run.pure (dd := some 116) rfl rfl (op_move rfl (Opd.tmp _ _ rfl)) ?_ | refine Run.pure (dd := some 116) rfl rfl (op_junk (.inl rfl)) ?_
              refine Run.pure (dd := some 117) rfl rfl (op_sub rfl (Opd.tmp _ _ rfl) (Opd.const _) tI) ?_
              first | refine Run.pure (dd := some 118) rfl rfl (op_move rfl (Opd.tmp _ _ rfl)) ?_ | refine Run.pure (dd := some 118) rfl rfl (op_junk (.inl rfl)) ?_
              first | refine Run.pure (dd := some 119) rfl rfl (op_move rfl (Opd.tmp _ _ rfl)) ?_ | refine Run.pure (dd := some 119) rfl rfl (op_junk (.inl rfl)) ?_
              refine Run.pure (dd := some 120) rfl rfl (op_sub rfl (Opd.tmp _ _ rfl) (Opd.const _) tI) ?_
              refine Run.pure (dd := some 121) rfl rfl (op_idx_sl0 (X.length + (k - 1)) rfl (Opd.tmp _ _ rfl) (Opd.tmp _ _ rfl) (by intro _; constructor <;> omega)) ?_
              refine Run.load (dd := some 122) rfl rfl (op_loadw_flat rfl (Opd.tmp _ _ rfl) (by intro _; exact ⟨rfl, rp⟩) rfl) ?_
              first | refine Run.pure (dd := some 123) rfl rfl (op_move rfl (Opd.tmp _ _ rfl)) ?_ | refine Run.pure (dd := some 123) rfl rfl (op_junk (.inl rfl)) ?_
              first | refine Run.pure (dd := some 124) rfl rfl (op_move rfl (Opd.tmp _ _ rfl)) ?_ | refine Run.pure (dd := some 124) rfl rfl (op_junk (.inl rfl)) ?_
              refine Run.pure (dd := some 125) rfl rfl (op_idx_sl0 (X.length + k) rfl (Opd.tmp _ _ rfl) (Opd.tmp _ _ rfl) (by intro _; constructor <;> omega)) ?_
              refine Run.load (dd := some 126) rfl rfl (op_loadw_flat rfl (Opd.tmp _ _ rfl) (by intro _; exact ⟨rfl, ra⟩) rfl) ?_
              refine Run.pure (dd := some 127) rfl rfl (op_idx_sl0 (X.length + k) rfl (Opd.tmp _ _ rfl) (Opd.tmp _ _ rfl) (by intro _; constructor <;> omega)) ?_
              refine Run.effW (dd := none) rfl rfl (op_store_flat rfl (Opd.tmp _ _ rfl) (Opd.tmp _ _ rfl) tC rfl rfl ra tS) tE ?_
              refine Run.pure (dd := some 128) rfl rfl (op_idx_sl0 (X.length + (k - 1)) rfl (Opd.tmp _ _ rfl) (Opd.tmp _ _ rfl) (by intro _; constructor <;> omega)) ?_
              refine Run.effW (dd := none) rfl rfl (op_store_flat rfl (Opd.tmp _ _ rfl) (Opd.tmp _ _ rfl) tC rfl rfl (rp2 _) tS) tE ?_
              refine Run.nil (FinD.mk (by kernel_rfl) ?_)
              refine nK ?_
              refine s_reg rfl ?_
              first | refine Run.pure (dd := some 111) rfl rfl (op_move rfl (Opd.tmp _ _ rfl)) ?_ | refine Run.pure (dd := some 111) rfl rfl (op_junk (.inl rfl)) ?_
              refine Run.pure (dd := some 112) rfl rfl (op_sub rfl (Opd.tmp _ _ rfl) (Opd.const _) tI) ?_
              first | refine Run.pure (dd := some 17) rfl rfl (op_assign rfl (Opd.tmp _ _ rfl)) ?_ | refine Run.pure (dd := some 17) rfl rfl (op_junk (.inr rfl)) ?_
              refine Run.nil (FinR.mk ?_)
              refine nK ?_
              refine Next.weak [0] [] (by rfl) (keepsN hC _ rfl) (by repeat (first | exact trivial | refine ⟨⟨_, rfl, .inl ⟨rfl, rfl⟩⟩, ?_⟩ | refine ⟨⟨_, rfl, .inl ⟨slEq rfl tN, rfl⟩⟩, ?_⟩ | refine ⟨⟨_, rfl, .inl ⟨ivEq tX, rfl⟩⟩, ?_⟩)) (by exact ⟨ent_same rfl rfl (flEq rfl (by rw [List.map_set, List.map_set])) trivial, trivial⟩) (fun _ h => by simp at h) hK3
            · have hk1 : k = i := by have := of_decide_eq_false hb; omega
              subst hk1
              rw [ho1]
              have e9 : X ++ (A.take k ++ y :: A.drop k ++ Y) = X ++ (A.take k ++ y :: (A.drop k ++ Y)) := by simp
              rw [e9]
              refine nK ?_
              refine Next.weak [0] [] (by rfl) (keepsN hC _ rfl) (G' := []) (H' := [(0, OE (X ++ (A.take k ++ y :: (A.drop k ++ Y))))]) trivial (by exact ⟨ent_same rfl rfl rfl tL, trivial⟩) (fun _ h => by simp at h) ?_
              exact n_out0 rfl
    · have hq1 : B.length ≠ 1 := by simp at hb; omega
      clear hb
      generalize hh : (A.length + B.length) / 2 = h
      refine nK ?_
      refine s_reg rfl ?_
      first | refine Run.pure (dd := some 129) rfl rfl (op_move rfl (Opd.tmp _ _ rfl)) ?_ | refine Run.pure (dd := some 129) rfl rfl (op_junk (.inl rfl)) ?_
      first | refine Run.pure (dd := some 130) rfl rfl (op_move rfl (Opd.tmp _ _ rfl)) ?_ | refine Run.pure (dd := some 130) rfl rfl (op_junk (.inl rfl)) ?_
      refine Run.pure (dd := some 131) rfl rfl (op_add rfl (Opd.tmp _ _ rfl) (Opd.tmp _ _ rfl) tI) ?_
      refine Run.pure (dd := some 132) rfl rfl (op_conv rfl (Opd.tmp _ _ rfl) tI) ?_
      refine Run.pure (dd := some 133) rfl rfl (op_shr (n := 1) rfl (Opd.tmp _ _ rfl) (Opd.const _) (by intro _; simp only [IntKind.bits]; omega)) ?_
      refine Run.pure (dd := some 134) rfl rfl (op_conv rfl (Opd.tmp _ _ rfl) tI) ?_
      first | refine Run.pure (dd := some 18) rfl rfl (op_assign rfl (Opd.tmp _ _ rfl)) ?_ | refine Run.pure (dd := some 18) rfl rfl (op_junk (.inr rfl)) ?_
      refine Run.nil (FinR.mk ?_)
      refine nK ?_
      refine s_reg rfl ?_
      first | refine Run.pure (dd := some 135) rfl rfl (op_move rfl (Opd.tmp _ _ rfl)) ?_ | refine Run.pure (dd := some 135) rfl rfl (op_junk (.inl rfl)) ?_
      first | refine Run.pure (dd := some 136) rfl rfl (op_move rfl (Opd.tmp _ _ rfl)) ?_ | refine Run.pure (dd := some 136) rfl rfl (op_junk (.inl rfl)) ?_
      refine Run.pure (dd := some 137) rfl rfl (op_add rfl (Opd.tmp _ _ rfl) (Opd.tmp _ _ rfl) tI) ?_
      first | refine Run.pure (dd := some 19) rfl rfl (op_assign rfl (Opd.tmp _ _ rfl)) ?_ | refine Run.pure (dd := some 19) rfl rfl (op_junk (.inr rfl)) ?_
      refine Run.nil (FinR.mk ?_)
      refine nK ?_
      refine s_reg rfl ?_
      first | refine Run.pure (dd := some 20) rfl rfl (op_assign rfl (Opd.const _)) ?_ | refine Run.pure (dd := some 20) rfl rfl (op_junk (.inr rfl)) ?_
      first | refine Run.pure (dd := some 21) rfl rfl (op_assign rfl (Opd.const _)) ?_ | refine Run.pure (dd := some 21) rfl rfl (op_junk (.inr rfl)) ?_
      refine Run.nil (FinR.mk ?_)
      refine nK ?_
      refine s_reg rfl ?_
      first | refine Run.pure (dd := some 138) rfl rfl (op_move rfl (Opd.tmp _ _ rfl)) ?_ | refine Run.pure (dd := some 138) rfl rfl (op_junk (.inl rfl)) ?_
      first | refine Run.pure (dd := some 139) rfl rfl (op_move rfl (Opd.tmp _ _ rfl)) ?_ | refine Run.pure (dd := some 139) rfl rfl (op_junk (.inl rfl)) ?_
      refine Run.pure (dd := some 140) rfl rfl (op_gtr rfl (Opd.tmp _ _ rfl) (Opd.tmp _ _ rfl)) ?_
      refine Run.nil (FinR.mk ?_)
      refine nK ?_
      have hsr : ∃ s0 r0 : Nat, s0 ≤ r0 ∧ r0 ≤ A.length ∧ r0 ≤ h ∧ h ≤ s0 + B.length ∧ (s0 = 0 ∨ s0 + B.length = h) ∧ (r0 = h ∨ r0 = A.length) ∧ (h < A.length → s0 + B.length = h ∧ r0 = h) ∧ (A.length ≤ h → s0 = 0 ∧ r0 = A.length) := by
        by_cases h1 : h < A.length
        · exact ⟨h - B.length, h, by omega, by omega, by omega, by omega, by omega, by omega, by omega, by omega⟩
        · exact ⟨0, A.length, by omega, by omega, by omega, by omega, by omega, by omega, by omega, by omega⟩
      obtain ⟨s0, r0, i1, i2, i3, i4, i5, i6, i7, i8⟩ := hsr
      refine n_join [(0, .sl 0 3 0 N), (1, IV .i64 X.length), (2, IV .i64 (X.length + A.length : Nat)), (3, IV .i64 (X.length + A.length + B.length : Nat)), (4, (PV.fz (.clo gf caps))), (18, IV .i64 (X.length + h : Nat)), (19, IV .i64 (X.length + h + (X.length + A.length) : Nat)), (20, IV .i64 (X.length + s0 : Nat)), (21, IV .i64 (X.length + r0 : Nat))] [(0, OE (X ++ (A ++ (B ++ Y))))] 1 ?_ ?_
      · refine nK ?_
        refine n_cond _ rfl (fun hb => ?_) (fun hb => ?_)
        · have h1 : h < A.length := by have := of_decide_eq_true hb; omega
          refine nK ?_
          refine s_reg rfl ?_
          first | refine Run.pure (dd := some 141) rfl rfl (op_move rfl (Opd.tmp _ _ rfl)) ?_ | refine Run.pure (dd := some 141) rfl rfl (op_junk (.inl rfl)) ?_
          first | refine Run.pure (dd := some 142) rfl rfl (op_move rfl (Opd.tmp _ _ rfl)) ?_ | refine Run.pure (dd := some 142) rfl rfl (op_junk (.inl rfl)) ?_
          refine Run.pure (dd := some 143) rfl rfl (op_sub rfl (Opd.tmp _ _ rfl) (Opd.tmp _ _ rfl) tI) ?_
          first | refine Run.pure (dd := some 20) rfl rfl (op_assign rfl (Opd.tmp _ _ rfl)) ?_ | refine Run.pure (dd := some 20) rfl rfl (op_junk (.inr rfl)) ?_
          refine Run.nil (FinR.mk ?_)
          refine nK ?_
          refine s_reg rfl ?_
          first | refine Run.pure (dd := some 144) rfl rfl (op_move rfl (Opd.tmp _ _ rfl)) ?_ | refine Run.pure (dd := some 144) rfl rfl (op_junk (.inl rfl)) ?_
          first | refine Run.pure (dd := some 21) rfl rfl (op_assign rfl (Opd.tmp _ _ rfl)) ?_ | refine Run.pure (dd := some 21) rfl rfl (op_junk (.inr rfl)) ?_
          refine Run.nil (FinR.mk ?_)
          refine nK ?_
          refine Next.weakS [0] [] (by rfl) (by first | exact keeps0 hC _ | exact keepsN hC _ rfl) (by repeat (first | exact trivial | refine ⟨⟨_, rfl, .inl ⟨rfl, rfl⟩⟩, ?_⟩ | refine ⟨⟨_, rfl, .inl ⟨slEq rfl tN, rfl⟩⟩, ?_⟩ | refine ⟨⟨_, rfl, .inl ⟨ivEq tX, rfl⟩⟩, ?_⟩)) (by repeat (first | exact trivial | refine ⟨ent_same rfl rfl rfl tL, ?_⟩ | refine ⟨ent_same rfl rfl (rfEq rfl tU) tL, ?_⟩ | refine ⟨ent_same rfl rfl (flEq rfl (by first | (simp; done) | (simp; omega) | (simp [encE]; done) | simp [maxC, minC])) trivial, ?_⟩)) rfl (rel_intro)
        · have h1 : A.length ≤ h := by have := of_decide_eq_false hb; omega
          refine nK ?_
          refine s_reg rfl ?_
          first | refine Run.pure (dd := some 145) rfl rfl (op_move rfl (Opd.tmp _ _ rfl)) ?_ | refine Run.pure (dd := some 145) rfl rfl (op_junk (.inl rfl)) ?_
          first | refine Run.pure (dd := some 20) rfl rfl (op_assign rfl (Opd.tmp _ _ rfl)) ?_ | refine Run.pure (dd := some 20) rfl rfl (op_junk (.inr rfl)) ?_
          refine Run.nil (FinR.mk ?_)
          refine nK ?_
          refine s_reg rfl ?_
          first | refine Run.pure (dd := some 146) rfl rfl (op_move rfl (Opd.tmp _ _ rfl)) ?_ | refine Run.pure (dd := some 146) rfl rfl (op_junk (.inl rfl)) ?_
          first | refine Run.pure (dd := some 21) rfl rfl (op_assign rfl (Opd.tmp _ _ rfl)) ?_ | refine Run.pure (dd := some 21) rfl rfl (op_junk (.inr rfl)) ?_
          refine Run.nil (FinR.mk ?_)
          refine nK ?_
          refine Next.weakS [0] [] (by rfl) (by first | exact keeps0 hC _ | exact keepsN hC _ rfl) (by repeat (first | exact trivial | refine ⟨⟨_, rfl, .inl ⟨rfl, rfl⟩⟩, ?_⟩ | refine ⟨⟨_, rfl, .inl ⟨slEq rfl tN, rfl⟩⟩, ?_⟩ | refine ⟨⟨_, rfl, .inl ⟨ivEq tX, rfl⟩⟩, ?_⟩)) (by repeat (first | exact trivial | refine ⟨ent_same rfl rfl rfl tL, ?_⟩ | refine ⟨ent_same rfl rfl (rfEq rfl tU) tL, ?_⟩ | refine ⟨ent_same rfl rfl (flEq rfl (by first | (simp; done) | (simp; omega) | (simp [encE]; done) | simp [maxC, minC])) trivial, ?_⟩)) rfl (rel_intro)
      · refine nK ?_
        refine s_reg rfl ?_
        first | refine Run.pure (dd := some 147) rfl rfl (op_move rfl (Opd.tmp _ _ rfl)) ?_ | refine Run.pure (dd := some 147) rfl rfl (op_junk (.inl rfl)) ?_
        refine Run.pure (dd := some 148) rfl rfl (op_sub rfl (Opd.tmp _ _ rfl) (Opd.const _) tI) ?_
        first | refine Run.pure (dd := some 22) rfl rfl (op_assign rfl (Opd.tmp _ _ rfl)) ?_ | refine Run.pure (dd := some 22) rfl rfl (op_junk (.inr rfl)) ?_
        refine Run.nil (FinR.mk ?_)
        refine nK ?_
        refine n_loop (ι := Nat × Nat) (fun s => ([(0, .sl 0 3 0 N), (1, IV .i64 X.length), (2, IV .i64 (X.length + A.length : Nat)), (3, IV .i64 (X.length + A.length + B.length : Nat)), (4, (PV.fz (.clo gf caps))), (18, IV .i64 (X.length + h : Nat)), (19, IV .i64 (X.length + h + (X.length + A.length) : Nat)), (20, IV .i64 (X.length + s.1 : Nat)), (21, IV .i64 (X.length + s.2 : Nat)), (22, IV .i64 (X.length + h + (X.length + A.length) - 1 : Nat))], [(0, OE (X ++ (A ++ (B ++ Y))))], 1)) (fun s => s0 ≤ s.1 ∧ s.1 ≤ s.2 ∧ s.2 ≤ r0 ∧ (∀ (_ : s0 < s.1) (h1 : h - s.1 < B.length) (h2 : s.1 - 1 < A.length), ltS c B[h - s.1] A[s.1 - 1] = false) ∧ (∀ (_ : s.2 < r0) (h1 : h - 1 - s.2 < B.length) (h2 : s.2 < A.length), ltS c B[h - 1 - s.2] A[s.2] = true)) (fun s => s.2 - s.1) (s0, r0) ⟨Nat.le_refl _, i1, Nat.le_refl _, fun h => by simp at h, fun h => by simp at h⟩ ?_ ?_
        · refine Next.weakS [0] [] (by rfl) (by first | exact keeps0 hC _ | exact keepsN hC _ rfl) (by repeat (first | exact trivial | refine ⟨⟨_, rfl, .inl ⟨rfl, rfl⟩⟩, ?_⟩ | refine ⟨⟨_, rfl, .inl ⟨slEq rfl tN, rfl⟩⟩, ?_⟩ | refine ⟨⟨_, rfl, .inl ⟨ivEq tX, rfl⟩⟩, ?_⟩)) (by repeat (first | exact trivial | refine ⟨ent_same rfl rfl rfl tL, ?_⟩ | refine ⟨ent_same rfl rfl (rfEq rfl tU) tL, ?_⟩ | refine ⟨ent_same rfl rfl (flEq rfl (by first | (simp; done) | (simp; omega) | (simp [encE]; done) | simp [maxC, minC])) trivial, ?_⟩)) rfl (rel_intro)
        · intro ⟨i, j⟩ ⟨h1, h2, h3, h4, h5⟩ K hK
          dsimp only at h1 h2 h3 h4 h5 hK ⊢
          refine nK ?_
          refine s_reg rfl ?_
          first | refine Run.pure (dd := some 149) rfl rfl (op_move rfl (Opd.tmp _ _ rfl)) ?_ | refine Run.pure (dd := some 149) rfl rfl (op_junk (.inl rfl)) ?_
          first | refine Run.pure (dd := some 150) rfl rfl (op_move rfl (Opd.tmp _ _ rfl)) ?_ | refine Run.pure (dd := some 150) rfl rfl (op_junk (.inl rfl)) ?_
          refine Run.pure (dd := some 151) rfl rfl (op_lss rfl (Opd.tmp _ _ rfl) (Opd.tmp _ _ rfl)) ?_
          refine Run.nil (FinR.mk ?_)
          refine nK ?_
          refine n_cond _ rfl (fun hb => ?_) (fun hb => ?_)
          · have hij : i < j := by have := of_decide_eq_true hb; omega
            have hha : (i + j) / 2 < A.length := by omega
            have hhb : h - 1 - (i + j) / 2 < B.length := by omega
            have hra : ((X ++ (A ++ (B ++ Y))).map encE)[X.length + (i + j) / 2]? = some (encE A[(i + j) / 2]) := by
              rw [List.getElem?_map, List.getElem?_append_right (by omega), List.getElem?_append_left (by omega), show X.length + (i + j) / 2 - X.length = (i + j) / 2 by omega, List.getElem?_eq_getElem hha]; rfl
            have hrb : ((X ++ (A ++ (B ++ Y))).map encE)[X.length + A.length + (h - 1 - (i + j) / 2)]? = some (encE B[h - 1 - (i + j) / 2]) := by
              rw [List.getElem?_map, List.getElem?_append_right (by omega), List.getElem?_append_right (by omega), List.getElem?_append_left (by omega), show X.length + A.length + (h - 1 - (i + j) / 2) - X.length - A.length = h - 1 - (i + j) / 2 by omega, List.getElem?_eq_getElem hhb]; rfl
            have hKa := fun (hq : ltS c B[h - 1 - (i + j) / 2] A[(i + j) / 2] = false) => hK ((i + j) / 2 + 1, j) ⟨by dsimp only; omega, by dsimp only; omega, by dsimp only; omega, fun _ _ _ => by
              simp only [show h - ((i + j) / 2 + 1) = h - 1 - (i + j) / 2 by omega, Nat.add_sub_cancel]; exact hq, h5⟩ (by dsimp only; omega)
            have hKb := fun (hq : ltS c B[h - 1 - (i + j) / 2] A[(i + j) / 2] = true) => hK (i, (i + j) / 2) ⟨by dsimp only; omega, by dsimp only; omega, by dsimp only; omega, h4, fun _ _ _ => hq⟩ (by dsimp only; omega)
            generalize A[(i + j) / 2] = u at *
            generalize B[h - 1 - (i + j) / 2] = v at *
            dsimp only at hKa hKb
            refine nK ?_
            refine s_reg rfl ?_
            first | refine Run.pure (dd := some 152) rfl rfl (op_move rfl (Opd.tmp _ _ rfl)) ?_ | refine Run.pure (dd := some 152) rfl rfl (op_junk (.inl rfl)) ?_
            first | refine Run.pure (dd := some 153) rfl rfl (op_move rfl (Opd.tmp _ _ rfl)) ?_ | refine Run.pure (dd := some 153) rfl rfl (op_junk (.inl rfl)) ?_
            refine Run.pure (dd := some 154) rfl rfl (op_add rfl (Opd.tmp _ _ rfl) (Opd.tmp _ _ rfl) tI) ?_
            refine Run.pure (dd := some 155) rfl rfl (op_conv rfl (Opd.tmp _ _ rfl) tI) ?_
            refine Run.pure (dd := some 156) rfl rfl (op_shr (n := 1) rfl (Opd.tmp _ _ rfl) (Opd.const _) (by intro _; simp only [IntKind.bits]; omega)) ?_
            refine Run.pure (dd := some 157) rfl rfl (op_conv rfl (Opd.tmp _ _ rfl) tI) ?_
            first | refine Run.pure (dd := some 23) rfl rfl (op_assign rfl (Opd.tmp _ _ rfl)) ?_ | refine Run.pure (dd := some 23) rfl rfl (op_junk (.inr rfl)) ?_
            refine Run.nil (FinR.mk ?_)
            refine nK ?_
            refine s_draw mixed ?_
            first | refine Run.pure (dd := some 158) rfl rfl (op_move rfl (Opd.tmp _ _ rfl)) ?_ | refine Run.pure (dd := some 158) rfl rfl (op_junk (.inl rfl)) ?_
            first | refine Run.pure (dd := some 159) rfl rfl (op_move rfl (Opd.tmp _ _ rfl)) ?_ | refine Run.pure (dd := some 159) rfl rfl (op_junk (.inl rfl)) ?_
            first | refine Run.pure (dd := some 160) rfl rfl (op_move rfl (Opd.tmp _ _ rfl)) ?_ | refine Run.pure (dd := some 160) rfl rfl (op_junk (.inl rfl)) ?_
            first | refine Run.pure (dd := some 161) rfl rfl (op_move rfl (Opd.tmp _ _ rfl)) ?_ | refine Run.pure (dd := some 161) rfl rfl (op_junk (.inl rfl)) ?_
            refine Run.pure (dd := some 162) rfl rfl (op_sub rfl (Opd.tmp _ _ rfl) (Opd.tmp _ _ rfl) tI) ?_
            refine Run.pure (dd := some 163) rfl rfl (op_idx_sl0 (X.length + A.length + (h - 1 - (i + j) / 2)) rfl (Opd.tmp _ _ rfl) (Opd.tmp _ _ rfl) (by intro _; constructor <;> omega)) ?_
            refine Run.load (dd := some 164) rfl rfl (op_loadw_flat rfl (Opd.tmp _ _ rfl) (by intro _; exact ⟨rfl, hrb⟩) rfl) ?_
            first | refine Run.pure (dd := some 165) rfl rfl (op_move rfl (Opd.tmp _ _ rfl)) ?_ | refine Run.pure (dd := some 165) rfl rfl (op_junk (.inl rfl)) ?_
            first | refine Run.pure (dd := some 166) rfl rfl (op_move rfl (Opd.tmp _ _ rfl)) ?_ | refine Run.pure (dd := some 166) rfl rfl (op_junk (.inl rfl)) ?_
            refine Run.pure (dd := some 167) rfl rfl (op_idx_sl0 (X.length + (i + j) / 2) rfl (Opd.tmp _ _ rfl) (Opd.tmp _ _ rfl) (by intro _; constructor <;> omega)) ?_
            refine Run.load (dd := some 168) rfl rfl (op_loadw_flat rfl (Opd.tmp _ _ rfl) (by intro _; exact ⟨rfl, hra⟩) rfl) ?_
            refine Run.pure (dd := some 169) rfl rfl (op_call_pureC (fun _ => hp v u) rfl (Opd.tmp _ _ rfl) (Opds.cons _ _ _ _ (Opd.tmp _ _ rfl) (Opds.cons _ _ _ _ (Opd.tmp _ _ rfl) Opds.nil))) ?_
            refine Run.pure (dd := some 170) rfl rfl (op_lss rfl (Opd.tmp _ _ rfl) (Opd.const _)) ?_
            refine Run.pure (dd := some 171) rfl rfl (op_not rfl (Opd.tmp _ _ rfl)) ?_
            refine Run.nil (FinD.mk (by kernel_rfl) ?_)
            refine nK ?_
            refine n_cond _ rfl (fun hb => ?_) (fun hb => ?_)
            · refine nK ?_
              refine s_reg rfl ?_
              first | refine Run.pure (dd := some 172) rfl rfl (op_move rfl (Opd.tmp _ _ rfl)) ?_ | refine Run.pure (dd := some 172) rfl rfl (op_junk (.inl rfl)) ?_
              refine Run.pure (dd := some 173) rfl rfl (op_add rfl (Opd.tmp _ _ rfl) (Opd.const _) tI) ?_
              first | refine Run.pure (dd := some 20) rfl rfl (op_assign rfl (Opd.tmp _ _ rfl)) ?_ | refine Run.pure (dd := some 20) rfl rfl (op_junk (.inr rfl)) ?_
              refine Run.nil (FinR.mk ?_)
              refine nK ?_
              refine Next.weakS [0] [] (by rfl) (by first | exact keeps0 hC _ | exact keepsN hC _ rfl) (by repeat (first | exact trivial | refine ⟨⟨_, rfl, .inl ⟨rfl, rfl⟩⟩, ?_⟩ | refine ⟨⟨_, rfl, .inl ⟨slEq rfl tN, rfl⟩⟩, ?_⟩ | refine ⟨⟨_, rfl, .inl ⟨ivEq tX, rfl⟩⟩, ?_⟩)) (by repeat (first | exact trivial | refine ⟨ent_same rfl rfl rfl tL, ?_⟩ | refine ⟨ent_same rfl rfl (rfEq rfl tU) tL, ?_⟩ | refine ⟨ent_same rfl rfl (flEq rfl (by first | (simp; done) | (simp; omega) | (simp [encE]; done) | simp [maxC, minC])) trivial, ?_⟩)) rfl ((hKa (by simpa using hb)))
            · refine nK ?_
              refine s_reg rfl ?_
              first | refine Run.pure (dd := some 174) rfl rfl (op_move rfl (Opd.tmp _ _ rfl)) ?_ | refine Run.pure (dd := some 174) rfl rfl (op_junk (.inl rfl)) ?_
              first | refine Run.pure (dd := some 21) rfl rfl (op_assign rfl (Opd.tmp _ _ rfl)) ?_ | refine Run.pure (dd := some 21) rfl rfl (op_junk (.inr rfl)) ?_
              refine Run.nil (FinR.mk ?_)
              refine nK ?_
              refine Next.weakS [0] [] (by rfl) (by first | exact keeps0 hC _ | exact keepsN hC _ rfl) (by repeat (first | exact trivial | refine ⟨⟨_, rfl, .inl ⟨rfl, rfl⟩⟩, ?_⟩ | refine ⟨⟨_, rfl, .inl ⟨slEq rfl tN, rfl⟩⟩, ?_⟩ | refine ⟨⟨_, rfl, .inl ⟨ivEq tX, rfl⟩⟩, ?_⟩)) (by repeat (first | exact trivial | refine ⟨ent_same rfl rfl rfl tL, ?_⟩ | refine ⟨ent_same rfl rfl (rfEq rfl tU) tL, ?_⟩ | refine ⟨ent_same rfl rfl (flEq rfl (by first | (simp; done) | (simp; omega) | (simp [encE]; done) | simp [maxC, minC])) trivial, ?_⟩)) rfl ((hKb (by simpa using hb)))
          · have hij : i = j := by have := of_decide_eq_false hb; omega
            subst hij
            have hT1 : h - i ≤ B.length := by omega
            have hS1 : i ≤ A.length := by omega
            have hcut := sym_cut o sA sB hS1 hT1 (fun k1 k2 => h4 (by omega) k2 (by omega)) (fun k1 k2 => by
              have := h5 (by omega) (by omega) k1
              simp only [show h - 1 - i = h - i - 1 by omega] at this; exact this)
            generalize hTt : h - i = t at *
            rw [hcut]
            have l1 : (A.take i).length = i := by simp; omega
            have l2 : (A.drop i).length = A.length - i := by simp
            have l3 : (B.take t).length = t := by simp; omega
            have l4 : (B.drop t).length = B.length - t := by simp
            have sA1 : Srt (ltS c) (A.take i) := List.Pairwise.sublist (List.take_sublist _ _) sA
            have sA2 : Srt (ltS c) (A.drop i) := List.Pairwise.sublist (List.drop_sublist _ _) sA
            have sB1 : Srt (ltS c) (B.take t) := List.Pairwise.sublist (List.take_sublist _ _) sB
            have sB2 : Srt (ltS c) (B.drop t) := List.Pairwise.sublist (List.drop_sublist _ _) sB
            have eA : A = A.take i ++ A.drop i := (List.take_append_drop i A).symm
            have eB : B = B.take t ++ B.drop t := (List.take_append_drop t B).symm
            have hD0 : X ++ (A ++ (B ++ Y)) = X ++ (A.take i ++ (A.drop i ++ (B.take t ++ (B.drop t ++ Y)))) := by
              rw [← List.append_assoc (A.take i), List.take_append_drop, ← List.append_assoc (B.take t), List.take_append_drop]
            rw [hD0]
            generalize A.take i = A1 at *
            generalize A.drop i = A2 at *
            generalize B.take t = B1 at *
            generalize B.drop t = B2 at *
            clear hcut hK h4 h5 hD0 sA sB
            refine nK ?_
            refine s_reg rfl ?_
            first | refine Run.pure (dd := some 175) rfl rfl (op_move rfl (Opd.tmp _ _ rfl)) ?_ | refine Run.pure (dd := some 175) rfl rfl (op_junk (.inl rfl)) ?_
            first | refine Run.pure (dd := some 176) rfl rfl (op_move rfl (Opd.tmp _ _ rfl)) ?_ | refine Run.pure (dd := some 176) rfl rfl (op_junk (.inl rfl)) ?_
            refine Run.pure (dd := some 177) rfl rfl (op_sub rfl (Opd.tmp _ _ rfl) (Opd.tmp _ _ rfl) tI) ?_
            first | refine Run.pure (dd := some 24) rfl rfl (op_assign rfl (Opd.tmp _ _ rfl)) ?_ | refine Run.pure (dd := some 24) rfl rfl (op_junk (.inr rfl)) ?_
            refine Run.nil (FinR.mk ?_)
            refine nK ?_
            refine s_reg rfl ?_
            first | refine Run.pure (dd := some 178) rfl rfl (op_move rfl (Opd.tmp _ _ rfl)) ?_ | refine Run.pure (dd := some 178) rfl rfl (op_junk (.inl rfl)) ?_
            first | refine Run.pure (dd := some 179) rfl rfl (op_move rfl (Opd.tmp _ _ rfl)) ?_ | refine Run.pure (dd := some 179) rfl rfl (op_junk (.inl rfl)) ?_
            refine Run.pure (dd := some 180) rfl rfl (op_lss rfl (Opd.tmp _ _ rfl) (Opd.tmp _ _ rfl)) ?_
            first | refine Run.pure (dd := some 181) rfl rfl (op_move rfl (Opd.tmp _ _ rfl)) ?_ | refine Run.pure (dd := some 181) rfl rfl (op_junk (.inl rfl)) ?_
            first | refine Run.pureG (dd := some 182) rfl rfl rfl tG (op_move rfl (Opd.tmp _ _ rfl)) ?_ | refine Run.pureG (dd := some 182) rfl rfl rfl tG (op_junk (.inl rfl)) ?_
            first | refine Run.pureG (dd := some 183) rfl rfl rfl tG (op_move rfl (Opd.tmp _ _ rfl)) ?_ | refine Run.pureG (dd := some 183) rfl rfl rfl tG (op_junk (.inl rfl)) ?_
            refine Run.pureG (dd := some 184) rfl rfl rfl tG (op_lss rfl (Opd.topt _ _ _ rfl tO) (Opd.topt _ _ _ rfl tO)) ?_
            refine Run.pure (dd := some 185) rfl rfl (op_pick_and rfl (Opd.tmp _ _ rfl) (Opd.topt _ _ _ rfl tO)) ?_
            refine Run.nil (FinR.mk ?_)
            refine nK ?_
            refine n_join [(0, .sl 0 3 0 N), (1, IV .i64 X.length), (2, IV .i64 (X.length + A.length : Nat)), (3, IV .i64 (X.length + A.length + B.length : Nat)), (4, (PV.fz (.clo gf caps))), (18, IV .i64 (X.length + h : Nat)), (20, IV .i64 (X.length + i : Nat)), (24, IV .i64 (X.length + A.length + t : Nat))] [(0, OE (X ++ (A1 ++ (B1 ++ (A2 ++ (B2 ++ Y))))))] 1 ?_ ?_
            · refine nK ?_
              refine n_cond _ rfl (fun hb => ?_) (fun hb => ?_)
              · have hb1 : i < A.length ∧ 0 < t := by simp at hb; omega
                have hr := rotate_i gf caps (X ++ A1) A2 B1 (B2 ++ Y) (X ++ (A1 ++ (A2 ++ (B1 ++ (B2 ++ Y))))) (X ++ (A1 ++ (B1 ++ (A2 ++ (B2 ++ Y))))) N (X.length + i : Nat) (X.length + A.length : Nat) (((X.length + h + (X.length + A.length) : Nat) : Int) - ((X.length + i : Nat) : Int)) (by simp; omega) hn (by omega) (by omega) (by simp; omega) (by simp; omega) (by simp; omega) (by simp) (by simp)
                refine nK ?_
                refine s_reg rfl ?_
                first | refine Run.pure (dd := some 186) rfl rfl (op_move rfl (Opd.tmp _ _ rfl)) ?_ | refine Run.pure (dd := some 186) rfl rfl (op_junk (.inl rfl)) ?_
                first | refine Run.pure (dd := some 187) rfl rfl (op_move rfl (Opd.tmp _ _ rfl)) ?_ | refine Run.pure (dd := some 187) rfl rfl (op_junk (.inl rfl)) ?_
                first | refine Run.pure (dd := some 188) rfl rfl (op_move rfl (Opd.tmp _ _ rfl)) ?_ | refine Run.pure (dd := some 188) rfl rfl (op_junk (.inl rfl)) ?_
                first | refine Run.pure (dd := some 189) rfl rfl (op_move rfl (Opd.tmp _ _ rfl)) ?_ | refine Run.pure (dd := some 189) rfl rfl (op_junk (.inl rfl)) ?_
                first | refine Run.pure (dd := some 190) rfl rfl (op_move rfl (Opd.tmp _ _ rfl)) ?_ | refine Run.pure (dd := some 190) rfl rfl (op_junk (.inl rfl)) ?_
                refine Run.eff (dd := some 191) rfl rfl (op_call (n := 1) (n' := 1) [0] (fun _ => hr) rfl (Opd.func _) (Opds.cons _ _ _ _ (Opd.tmp _ _ rfl) (Opds.cons _ _ _ _ (Opd.tmp _ _ rfl) (Opds.cons _ _ _ _ (Opd.tmp _ _ rfl) (Opds.cons _ _ _ _ (Opd.tmp _ _ rfl) (Opds.cons _ _ _ _ (Opd.tmp _ _ rfl) Opds.nil))))) rfl rfl (Lent.of rfl rfl (by exact ⟨⟨rfl, rfl, rfl, trivial⟩, trivial⟩) rfl) rfl rfl rfl rfl rfl) ?_
                refine Run.nil (FinR.mk ?_)
                refine nK ?_
                refine Next.weakS [0] [] (by rfl) (by first | exact keeps0 hC _ | exact keepsN hC _ rfl) (by repeat (first | exact trivial | refine ⟨⟨_, rfl, .inl ⟨rfl, rfl⟩⟩, ?_⟩ | refine ⟨⟨_, rfl, .inl ⟨slEq rfl tN, rfl⟩⟩, ?_⟩ | refine ⟨⟨_, rfl, .inl ⟨ivEq tX, rfl⟩⟩, ?_⟩)) (by repeat (first | exact trivial | refine ⟨ent_same rfl rfl rfl tL, ?_⟩ | refine ⟨ent_same rfl rfl (rfEq rfl tU) tL, ?_⟩ | refine ⟨ent_same rfl rfl (flEq rfl (by first | (simp; done) | (simp; omega) | (simp [encE]; done) | simp [maxC, minC])) trivial, ?_⟩)) rfl (rel_intro)
              · have hb1 : ¬ (i < A.length ∧ 0 < t) := by simp at hb; omega
                have e1 : A1 ++ (A2 ++ (B1 ++ (B2 ++ Y))) = A1 ++ (B1 ++ (A2 ++ (B2 ++ Y))) := by
                  by_cases h6 : A2 = []
                  · rw [h6]; simp
                  · have : B1 = [] := by
                      have : A2.length ≠ 0 := fun h => h6 (List.length_eq_zero_iff.1 h)
                      exact List.length_eq_zero_iff.1 (by omega)
                    rw [this]; simp
                rw [e1]
                refine nK ?_
                refine Next.weakS [0] [] (by rfl) (by first | exact keeps0 hC _ | exact keepsN hC _ rfl) (by repeat (first | exact trivial | refine ⟨⟨_, rfl, .inl ⟨rfl, rfl⟩⟩, ?_⟩ | refine ⟨⟨_, rfl, .inl ⟨slEq rfl tN, rfl⟩⟩, ?_⟩ | refine ⟨⟨_, rfl, .inl ⟨ivEq tX, rfl⟩⟩, ?_⟩)) (by repeat (first | exact trivial | refine ⟨ent_same rfl rfl rfl tL, ?_⟩ | refine ⟨ent_same rfl rfl (rfEq rfl tU) tL, ?_⟩ | refine ⟨ent_same rfl rfl (flEq rfl (by first | (simp; done) | (simp; omega) | (simp [encE]; done) | simp [maxC, minC])) trivial, ?_⟩)) rfl (rel_intro)
            · refine nK ?_
              refine s_reg rfl ?_
              first | refine Run.pure (dd := some 192) rfl rfl (op_move rfl (Opd.tmp _ _ rfl)) ?_ | refine Run.pure (dd := some 192) rfl rfl (op_junk (.inl rfl)) ?_
              first | refine Run.pure (dd := some 193) rfl rfl (op_move rfl (Opd.tmp _ _ rfl)) ?_ | refine Run.pure (dd := some 193) rfl rfl (op_junk (.inl rfl)) ?_
              refine Run.pure (dd := some 194) rfl rfl (op_lss rfl (Opd.tmp _ _ rfl) (Opd.tmp _ _ rfl)) ?_
              first | refine Run.pure (dd := some 195) rfl rfl (op_move rfl (Opd.tmp _ _ rfl)) ?_ | refine Run.pure (dd := some 195) rfl rfl (op_junk (.inl rfl)) ?_
              first | refine Run.pureG (dd := some 196) rfl rfl rfl tG (op_move rfl (Opd.tmp _ _ rfl)) ?_ | refine Run.pureG (dd := some 196) rfl rfl rfl tG (op_junk (.inl rfl)) ?_
              first | refine Run.pureG (dd := some 197) rfl rfl rfl tG (op_move rfl (Opd.tmp _ _ rfl)) ?_ | refine Run.pureG (dd := some 197) rfl rfl rfl tG (op_junk (.inl rfl)) ?_
              refine Run.pureG (dd := some 198) rfl rfl rfl tG (op_lss rfl (Opd.topt _ _ _ rfl tO) (Opd.topt _ _ _ rfl tO)) ?_
              refine Run.pure (dd := some 199) rfl rfl (op_pick_and rfl (Opd.tmp _ _ rfl) (Opd.topt _ _ _ rfl tO)) ?_
              refine Run.nil (FinR.mk ?_)
              refine nK ?_
              refine n_join [(0, .sl 0 3 0 N), (3, IV .i64 (X.length + A.length + B.length : Nat)), (4, (PV.fz (.clo gf caps))), (18, IV .i64 (X.length + h : Nat)), (24, IV .i64 (X.length + A.length + t : Nat))] [(0, OE (X ++ (mrg (ltS c) A1 B1 ++ (A2 ++ (B2 ++ Y)))))] 1 ?_ ?_
              · refine nK ?_
                refine n_cond _ rfl (fun hb => ?_) (fun hb => ?_)
                · have hb1 : 0 < i ∧ i < h := by simp at hb; omega
                  have hr := ih X A1 B1 (A2 ++ (B2 ++ Y)) (X ++ (A1 ++ (B1 ++ (A2 ++ (B2 ++ Y))))) (X ++ (mrg (ltS c) A1 B1 ++ (A2 ++ (B2 ++ Y)))) X.length (X.length + i : Nat) (X.length + h : Nat) (by omega) (by omega) (by omega) sA1 sB1 (by simp; omega) rfl (by omega) (by omega) rfl rfl
                  refine nK ?_
                  refine s_reg rfl ?_
                  first | refine Run.pure (dd := some 200) rfl rfl (op_move rfl (Opd.tmp _ _ rfl)) ?_ | refine Run.pure (dd := some 200) rfl rfl (op_junk (.inl rfl)) ?_
                  first | refine Run.pure (dd := some 201) rfl rfl (op_move rfl (Opd.tmp _ _ rfl)) ?_ | refine Run.pure (dd := some 201) rfl rfl (op_junk (.inl rfl)) ?_
                  first | refine Run.pure (dd := some 202) rfl rfl (op_move rfl (Opd.tmp _ _ rfl)) ?_ | refine Run.pure (dd := some 202) rfl rfl (op_junk (.inl rfl)) ?_
                  first | refine Run.pure (dd := some 203) rfl rfl (op_move rfl (Opd.tmp _ _ rfl)) ?_ | refine Run.pure (dd := some 203) rfl rfl (op_junk (.inl rfl)) ?_
                  first | refine Run.pure (dd := some 204) rfl rfl (op_move rfl (Opd.tmp _ _ rfl)) ?_ | refine Run.pure (dd := some 204) rfl rfl (op_junk (.inl rfl)) ?_
                  refine Run.eff (dd := some 205) rfl rfl (op_call (n := 1) (n' := 1) [0] (fun _ => hr) rfl (Opd.func _) (Opds.cons _ _ _ _ (Opd.tmp _ _ rfl) (Opds.cons _ _ _ _ (Opd.tmp _ _ rfl) (Opds.cons _ _ _ _ (Opd.tmp _ _ rfl) (Opds.cons _ _ _ _ (Opd.tmp _ _ rfl) (Opds.cons _ _ _ _ (Opd.tmp _ _ rfl) Opds.nil))))) rfl rfl (Lent.of rfl rfl (by exact ⟨⟨rfl, rfl, rfl, trivial⟩, trivial⟩) rfl) rfl rfl rfl rfl rfl) ?_
                  refine Run.nil (FinR.mk ?_)
                  refine nK ?_
                  refine Next.weakS [0] [] (by rfl) (by first | exact keeps0 hC _ | exact keepsN hC _ rfl) (by repeat (first | exact trivial | refine ⟨⟨_, rfl, .inl ⟨rfl, rfl⟩⟩, ?_⟩ | refine ⟨⟨_, rfl, .inl ⟨slEq rfl tN, rfl⟩⟩, ?_⟩ | refine ⟨⟨_, rfl, .inl ⟨ivEq tX, rfl⟩⟩, ?_⟩)) (by repeat (first | exact trivial | refine ⟨ent_same rfl rfl rfl tL, ?_⟩ | refine ⟨ent_same rfl rfl (rfEq rfl tU) tL, ?_⟩ | refine ⟨ent_same rfl rfl (flEq rfl (by first | (simp; done) | (simp; omega) | (simp [encE]; done) | simp [maxC, minC])) trivial, ?_⟩)) rfl (rel_intro)
                · have hb1 : ¬ (0 < i ∧ i < h) := by simp at hb; omega
                  have e1 : A1 ++ (B1 ++ (A2 ++ (B2 ++ Y))) = mrg (ltS c) A1 B1 ++ (A2 ++ (B2 ++ Y)) := by
                    by_cases h6 : A1 = []
                    · rw [h6, mrg_nil_left]; simp
                    · have : B1 = [] := by
                        have : A1.length ≠ 0 := fun h => h6 (List.length_eq_zero_iff.1 h)
                        exact List.length_eq_zero_iff.1 (by omega)
                      rw [this, mrg_nil]; simp
                  rw [e1]
                  refine nK ?_
                  refine Next.weakS [0] [] (by rfl) (by first | exact keeps0 hC _ | exact keepsN hC _ rfl) (by repeat (first | exact trivial | refine ⟨⟨_, rfl, .inl ⟨rfl, rfl⟩⟩, ?_⟩ | refine ⟨⟨_, rfl, .inl ⟨slEq rfl tN, rfl⟩⟩, ?_⟩ | refine ⟨⟨_, rfl, .inl ⟨ivEq tX, rfl⟩⟩, ?_⟩)) (by repeat (first | exact trivial | refine ⟨ent_same rfl rfl rfl tL, ?_⟩ | refine ⟨ent_same rfl rfl (rfEq rfl tU) tL, ?_⟩ | refine ⟨ent_same rfl rfl (flEq rfl (by first | (simp; done) | (simp; omega) | (simp [encE]; done) | simp [maxC, minC])) trivial, ?_⟩)) rfl (rel_intro)
              · have l5 : (mrg (ltS c) A1 B1).length = h := by rw [mrg_len _ _ _ (Nat.le_refl _)]; omega
                generalize mrg (ltS c) A1 B1 = M1 at *
                refine nK ?_
                refine s_reg rfl ?_
                first | refine Run.pure (dd := some 206) rfl rfl (op_move rfl (Opd.tmp _ _ rfl)) ?_ | refine Run.pure (dd := some 206) rfl rfl (op_junk (.inl rfl)) ?_
                first | refine Run.pure (dd := some 207) rfl rfl (op_move rfl (Opd.tmp _ _ rfl)) ?_ | refine Run.pure (dd := some 207) rfl rfl (op_junk (.inl rfl)) ?_
                refine Run.pure (dd := some 208) rfl rfl (op_lss rfl (Opd.tmp _ _ rfl) (Opd.tmp _ _ rfl)) ?_
                first | refine Run.pure (dd := some 209) rfl rfl (op_move rfl (Opd.tmp _ _ rfl)) ?_ | refine Run.pure (dd := some 209) rfl rfl (op_junk (.inl rfl)) ?_
                first | refine Run.pureG (dd := some 210) rfl rfl rfl tG (op_move rfl (Opd.tmp _ _ rfl)) ?_ | refine Run.pureG (dd := some 210) rfl rfl rfl tG (op_junk (.inl rfl)) ?_
                first | refine Run.pureG (dd := some 211) rfl rfl rfl tG (op_move rfl (Opd.tmp _ _ rfl)) ?_ | refine Run.pureG (dd := some 211) rfl rfl rfl tG (op_junk (.inl rfl)) ?_
                refine Run.pureG (dd := some 212) rfl rfl rfl tG (op_lss rfl (Opd.topt _ _ _ rfl tO) (Opd.topt _ _ _ rfl tO)) ?_
                refine Run.pure (dd := some 213) rfl rfl (op_pick_and rfl (Opd.tmp _ _ rfl) (Opd.topt _ _ _ rfl tO)) ?_
                refine Run.nil (FinR.mk ?_)
                refine nK ?_
                refine n_cond _ rfl (fun hb => ?_) (fun hb => ?_)
                · have hb1 : h < A.length + t ∧ t < B.length := by simp at hb; omega
                  have hr := ih (X ++ M1) A2 B2 Y (X ++ (M1 ++ (A2 ++ (B2 ++ Y)))) (X ++ (M1 ++ mrg (ltS c) A2 B2 ++ Y)) (X.length + h : Nat) (X.length + A.length + t : Nat) (X.length + A.length + B.length : Nat) (by omega) (by omega) (by omega) sA2 sB2 (by simp; omega) (by simp; omega) (by simp; omega) (by simp; omega) (by simp) (by simp)
                  refine nK ?_
                  refine s_reg rfl ?_
                  first | refine Run.pure (dd := some 214) rfl rfl (op_move rfl (Opd.tmp _ _ rfl)) ?_ | refine Run.pure (dd := some 214) rfl rfl (op_junk (.inl rfl)) ?_
                  first | refine Run.pure (dd := some 215) rfl rfl (op_move rfl (Opd.tmp _ _ rfl)) ?_ | refine Run.pure (dd := some 215) rfl rfl (op_junk (.inl rfl)) ?_
                  first | refine Run.pure (dd := some 216) rfl rfl (op_move rfl (Opd.tmp _ _ rfl)) ?_ | refine Run.pure (dd := some 216) rfl rfl (op_junk (.inl rfl)) ?_
                  first | refine Run.pure (dd := some 217) rfl rfl (op_move rfl (Opd.tmp _ _ rfl)) ?_ | refine Run.pure (dd := some 217) rfl rfl (op_junk (.inl rfl)) ?_
                  first | refine Run.pure (dd := some 218) rfl rfl (op_move rfl (Opd.tmp _ _ rfl)) ?_ | refine Run.pure (dd := some 218) rfl rfl (op_junk (.inl rfl)) ?_
                  refine Run.eff (dd := some 219) rfl rfl (op_call (n := 1) (n' := 1) [0] (fun _ => hr) rfl (Opd.func _) (Opds.cons _ _ _ _ (Opd.tmp _ _ rfl) (Opds.cons _ _ _ _ (Opd.tmp _ _ rfl) (Opds.cons _ _ _ _ (Opd.tmp _ _ rfl) (Opds.cons _ _ _ _ (Opd.tmp _ _ rfl) (Opds.cons _ _ _ _ (Opd.tmp _ _ rfl) Opds.nil))))) rfl rfl (Lent.of rfl rfl (by exact ⟨⟨rfl, rfl, rfl, trivial⟩, trivial⟩) rfl) rfl rfl rfl rfl rfl) ?_
                  refine Run.nil (FinR.mk ?_)
                  refine nK ?_
                  refine Next.weak [0] [] (by rfl) (keepsN hC _ rfl) (G' := []) (H' := [(0, OE (X ++ (M1 ++ mrg (ltS c) A2 B2 ++ Y)))]) trivial (by exact ⟨ent_same rfl rfl rfl tL, trivial⟩) (fun _ h => by simp at h) ?_
                  exact n_out0 rfl
                · have hb1 : ¬ (h < A.length + t ∧ t < B.length) := by simp at hb; omega
                  have e1 : X ++ (M1 ++ (A2 ++ (B2 ++ Y))) = X ++ (M1 ++ mrg (ltS c) A2 B2 ++ Y) := by
                    by_cases h6 : A2 = []
                    · rw [h6, mrg_nil_left]; simp
                    · have : B2 = [] := by
                        have : A2.length ≠ 0 := fun h => h6 (List.length_eq_zero_iff.1 h)
                        exact List.length_eq_zero_iff.1 (by omega)
                      rw [this, mrg_nil]; simp
                  rw [e1]
                  refine nK ?_
                  refine Next.weak [0] [] (by rfl) (keepsN hC _ rfl) (G' := []) (H' := [(0, OE (X ++ (M1 ++ mrg (ltS c) A2 B2 ++ Y)))]) trivial (by exact ⟨ent_same rfl rfl rfl tL, trivial⟩) (fun _ h => by simp at h) ?_
                  exact n_out0 rfl
end Go.Proofs.Ytdbdajokdipmlaa
namespace Go.Proofs.Ytdbdajokdipmlaa
open Go Go.RT Go.Proofs Go.Pl
set_option linter.all false
set_option maxRecDepth 20000
set_option maxHeartbeats 4000000
theorem stable_c (gf : Nat) [FnB Try.prog gf] (caps : List FV) (c : Edg → Edg → Int) (o : Go.Pl.SW (ltS c)) (hp : ∀ x y, Pure Try.prog gf ([.agg (encE x), .agg (encE y)] ++ caps) (If .i64 (c x y))) (l : List Edg) (hn : l.length ≤ 2000000) :
    Meets Try.prog 25 [.sl 0 3 0 l.length, IV .i64 l.length, (PV.fz (.clo gf caps))] 1 [(0, OE l)] (.fz (.tup [])) [(0, OE (srtS (ltS c) l))] 1 := by
  generalize hN : l.length = N at *
  refine Meets.intro Try.func25 rfl (Nat.le_of_ble_eq_true rfl) fun C hC => ?_
  simp only [List.map, argEnv, Nat.reduceAdd]
  refine nK ?_
  refine s_reg rfl ?_
  first | refine Run.pure (dd := some 6) rfl rfl (op_assign rfl (Opd.const _)) ?_ | refine Run.pure (dd := some 6) rfl rfl (op_junk (.inr rfl)) ?_
  refine Run.nil (FinR.mk ?_)
  refine nK ?_
  refine s_reg rfl ?_
  first | refine Run.pure (dd := some 10) rfl rfl (op_move rfl (Opd.tmp _ _ rfl)) ?_ | refine Run.pure (dd := some 10) rfl rfl (op_junk (.inl rfl)) ?_
  first | refine Run.pure (dd := some 7) rfl rfl (op_assign rfl (Opd.const _)) ?_ | refine Run.pure (dd := some 7) rfl rfl (op_junk (.inr rfl)) ?_
  first | refine Run.pure (dd := some 8) rfl rfl (op_assign rfl (Opd.tmp _ _ rfl)) ?_ | refine Run.pure (dd := some 8) rfl rfl (op_junk (.inr rfl)) ?_
  refine Run.nil (FinR.mk ?_)
  refine nK ?_
  refine n_loop (ι := List Edg × List Edg) (fun s => ([(0, .sl 0 3 0 N), (1, IV .i64 N), (2, (PV.fz (.clo gf caps))), (6, IV .i64 20), (7, IV .i64 s.1.length), (8, IV .i64 (s.1.length + 20 : Nat))], [(0, OE (s.1 ++ s.2))], 1)) (fun s => s.1.length + s.2.length = N ∧ s.1 ++ bsL (ltS c) 20 s.2 = bsL (ltS c) 20 l) (fun s => s.2.length) ([], l) ⟨by simp [hN], rfl⟩ ?_ ?_
  · refine Next.weakS [0] [] (by rfl) (by first | exact keeps0 hC _ | exact keepsN hC _ rfl) (by repeat (first | exact trivial | refine ⟨⟨_, rfl, .inl ⟨rfl, rfl⟩⟩, ?_⟩ | refine ⟨⟨_, rfl, .inl ⟨slEq rfl tN, rfl⟩⟩, ?_⟩ | refine ⟨⟨_, rfl, .inl ⟨ivEq tX, rfl⟩⟩, ?_⟩)) (by repeat (first | exact trivial | refine ⟨ent_same rfl rfl rfl tL, ?_⟩ | refine ⟨ent_same rfl rfl (rfEq rfl tU) tL, ?_⟩ | refine ⟨ent_same rfl rfl (flEq rfl (by first | (simp; done) | (simp; omega) | (simp [encE]; done) | simp [maxC, minC])) trivial, ?_⟩)) rfl (rel_intro)
  · intro ⟨P, R⟩ ⟨h1, h2⟩ K hK
    dsimp only at h1 h2 hK ⊢
    refine nK ?_
    refine s_reg rfl ?_
    first | refine Run.pure (dd := some 11) rfl rfl (op_move rfl (Opd.tmp _ _ rfl)) ?_ | refine Run.pure (dd := some 11) rfl rfl (op_junk (.inl rfl)) ?_
    first | refine Run.pure (dd := some 12) rfl rfl (op_move rfl (Opd.tmp _ _ rfl)) ?_ | refine Run.pure (dd := some 12) rfl rfl (op_junk (.inl rfl)) ?_
    refine Run.pure (dd := some 13) rfl rfl (op_leq rfl (Opd.tmp _ _ rfl) (Opd.tmp _ _ rfl)) ?_
    refine Run.nil (FinR.mk ?_)
    refine nK ?_
    refine n_cond _ rfl (fun hb => ?_) (fun hb => ?_)
    · have h3 : 20 ≤ R.length := by have := of_decide_eq_true hb; omega
      have hr := ins_c gf caps c o hp P (R.take 20) (R.drop 20) (P ++ R) ((P ++ srtS (ltS c) (R.take 20)) ++ R.drop 20) N P.length (P.length + 20 : Nat) (by simp; omega) hn rfl (by simp; omega) (by simp) (by simp)
      have e2 : (srtS (ltS c) (R.take 20)).length = 20 := by rw [srtS_len]; simp; omega
      have hK1 := hK (P ++ srtS (ltS c) (R.take 20), R.drop 20) ⟨by simp [e2]; omega, by
        dsimp only
        rw [← h2, bsL_cut (l := R) (by omega) h3]; simp⟩ (by simp; omega)
      dsimp only at hK1
      rw [List.length_append, e2] at hK1
      refine nK ?_
      refine s_reg rfl ?_
      first | refine Run.pure (dd := some 14) rfl rfl (op_move rfl (Opd.tmp _ _ rfl)) ?_ | refine Run.pure (dd := some 14) rfl rfl (op_junk (.inl rfl)) ?_
      first | refine Run.pure (dd := some 15) rfl rfl (op_move rfl (Opd.tmp _ _ rfl)) ?_ | refine Run.pure (dd := some 15) rfl rfl (op_junk (.inl rfl)) ?_
      first | refine Run.pure (dd := some 16) rfl rfl (op_move rfl (Opd.tmp _ _ rfl)) ?_ | refine Run.pure (dd := some 16) rfl rfl (op_junk (.inl rfl)) ?_
      first | refine Run.pure (dd := some 17) rfl rfl (op_move rfl (Opd.tmp _ _ rfl)) ?_ | refine Run.pure (dd := some 17) rfl rfl (op_junk (.inl rfl)) ?_
      refine Run.eff (dd := some 18) rfl rfl (op_call (n := 1) (n' := 1) [0] (fun _ => hr) rfl (Opd.func _) (Opds.cons _ _ _ _ (Opd.tmp _ _ rfl) (Opds.cons _ _ _ _ (Opd.tmp _ _ rfl) (Opds.cons _ _ _ _ (Opd.tmp _ _ rfl) (Opds.cons _ _ _ _ (Opd.tmp _ _ rfl) Opds.nil)))) rfl rfl (Lent.of rfl rfl (by exact ⟨⟨rfl, rfl, rfl, trivial⟩, trivial⟩) rfl) rfl rfl rfl rfl rfl) ?_
      refine Run.nil (FinR.mk ?_)
      refine nK ?_
      refine s_reg rfl ?_
      first | refine Run.pure (dd := some 19) rfl rfl (op_move rfl (Opd.tmp _ _ rfl)) ?_ | refine Run.pure (dd := some 19) rfl rfl (op_junk (.inl rfl)) ?_
      first | refine Run.pure (dd := some 7) rfl rfl (op_assign rfl (Opd.tmp _ _ rfl)) ?_ | refine Run.pure (dd := some 7) rfl rfl (op_junk (.inr rfl)) ?_
      refine Run.nil (FinR.mk ?_)
      refine nK ?_
      refine s_reg rfl ?_
      first | refine Run.pure (dd := some 20) rfl rfl (op_move rfl (Opd.tmp _ _ rfl)) ?_ | refine Run.pure (dd := some 20) rfl rfl (op_junk (.inl rfl)) ?_
      first | refine Run.pure (dd := some 21) rfl rfl (op_move rfl (Opd.tmp _ _ rfl)) ?_ | refine Run.pure (dd := some 21) rfl rfl (op_junk (.inl rfl)) ?_
      refine Run.pure (dd := some 22) rfl rfl (op_add rfl (Opd.tmp _ _ rfl) (Opd.tmp _ _ rfl) tI) ?_
      first | refine Run.pure (dd := some 8) rfl rfl (op_assign rfl (Opd.tmp _ _ rfl)) ?_ | refine Run.pure (dd := some 8) rfl rfl (op_junk (.inr rfl)) ?_
      refine Run.nil (FinR.mk ?_)
      refine nK ?_
      refine Next.weakS [0] [] (by rfl) (by first | exact keeps0 hC _ | exact keepsN hC _ rfl) (by repeat (first | exact trivial | refine ⟨⟨_, rfl, .inl ⟨rfl, rfl⟩⟩, ?_⟩ | refine ⟨⟨_, rfl, .inl ⟨slEq rfl tN, rfl⟩⟩, ?_⟩ | refine ⟨⟨_, rfl, .inl ⟨ivEq tX, rfl⟩⟩, ?_⟩)) (by repeat (first | exact trivial | refine ⟨ent_same rfl rfl rfl tL, ?_⟩ | refine ⟨ent_same rfl rfl (rfEq rfl tU) tL, ?_⟩ | refine ⟨ent_same rfl rfl (flEq rfl (by first | (simp; done) | (simp; omega) | (simp [encE]; done) | simp [maxC, minC])) trivial, ?_⟩)) rfl (hK1)
    · have h3 : R.length < 20 := by have := of_decide_eq_false hb; omega
      have hr := ins_c gf caps c o hp P R [] (P ++ R) (bsL (ltS c) 20 l) N P.length N (by simp; omega) hn rfl (by omega) (by simp) (by rw [← h2, bsL_small (by omega)]; simp)
      clear hK
      refine nK ?_
      refine s_reg rfl ?_
      first | refine Run.pure (dd := some 23) rfl rfl (op_move rfl (Opd.tmp _ _ rfl)) ?_ | refine Run.pure (dd := some 23) rfl rfl (op_junk (.inl rfl)) ?_
      first | refine Run.pure (dd := some 24) rfl rfl (op_move rfl (Opd.tmp _ _ rfl)) ?_ | refine Run.pure (dd := some 24) rfl rfl (op_junk (.inl rfl)) ?_
      first | refine Run.pure (dd := some 25) rfl rfl (op_move rfl (Opd.tmp _ _ rfl)) ?_ | refine Run.pure (dd := some 25) rfl rfl (op_junk (.inl rfl)) ?_
      first | refine Run.pure (dd := some 26) rfl rfl (op_move rfl (Opd.tmp _ _ rfl)) ?_ | refine Run.pure (dd := some 26) rfl rfl (op_junk (.inl rfl)) ?_
      refine Run.eff (dd := some 27) rfl rfl (op_call (n := 1) (n' := 1) [0] (fun _ => hr) rfl (Opd.func _) (Opds.cons _ _ _ _ (Opd.tmp _ _ rfl) (Opds.cons _ _ _ _ (Opd.tmp _ _ rfl) (Opds.cons _ _ _ _ (Opd.tmp _ _ rfl) (Opds.cons _ _ _ _ (Opd.tmp _ _ rfl) Opds.nil)))) rfl rfl (Lent.of rfl rfl (by exact ⟨⟨rfl, rfl, rfl, trivial⟩, trivial⟩) rfl) rfl rfl rfl rfl rfl) ?_
      refine Run.nil (FinR.mk ?_)
      refine nK ?_
      refine n_loop (ι := Nat) (fun w => ([(0, .sl 0 3 0 N), (1, IV .i64 N), (2, (PV.fz (.clo gf caps))), (6, IV .i64 w)], [(0, OE (bsL (ltS c) w l))], 1)) (fun w => 0 < w ∧ w ≤ 4000000) (fun w => 4000000 - w) 20 ⟨by omega, by omega⟩ ?_ ?_
      · refine Next.weakS [0] [] (by rfl) (by first | exact keeps0 hC _ | exact keepsN hC _ rfl) (by repeat (first | exact trivial | refine ⟨⟨_, rfl, .inl ⟨rfl, rfl⟩⟩, ?_⟩ | refine ⟨⟨_, rfl, .inl ⟨slEq rfl tN, rfl⟩⟩, ?_⟩ | refine ⟨⟨_, rfl, .inl ⟨ivEq tX, rfl⟩⟩, ?_⟩)) (by repeat (first | exact trivial | refine ⟨ent_same rfl rfl rfl tL, ?_⟩ | refine ⟨ent_same rfl rfl (rfEq rfl tU) tL, ?_⟩ | refine ⟨ent_same rfl rfl (flEq rfl (by first | (simp; done) | (simp; omega) | (simp [encE]; done) | simp [maxC, minC])) trivial, ?_⟩)) rfl (rel_intro)
      · intro w ⟨hw, hw2⟩ K2 hK2
        dsimp only at hK2 ⊢
        refine nK ?_
        refine s_reg rfl ?_
        first | refine Run.pure (dd := some 28) rfl rfl (op_move rfl (Opd.tmp _ _ rfl)) ?_ | refine Run.pure (dd := some 28) rfl rfl (op_junk (.inl rfl)) ?_
        first | refine Run.pure (dd := some 29) rfl rfl (op_move rfl (Opd.tmp _ _ rfl)) ?_ | refine Run.pure (dd := some 29) rfl rfl (op_junk (.inl rfl)) ?_
        refine Run.pure (dd := some 30) rfl rfl (op_lss rfl (Opd.tmp _ _ rfl) (Opd.tmp _ _ rfl)) ?_
        refine Run.nil (FinR.mk ?_)
        refine nK ?_
        refine n_cond _ rfl (fun hb => ?_) (fun hb => ?_)
        · have hwn : w < N := by have := of_decide_eq_true hb; omega
          refine nK ?_
          refine s_reg rfl ?_
          first | refine Run.pure (dd := some 31) rfl rfl (op_move rfl (Opd.tmp _ _ rfl)) ?_ | refine Run.pure (dd := some 31) rfl rfl (op_junk (.inl rfl)) ?_
          refine Run.pure (dd := some 32) rfl rfl (op_mul rfl (Opd.const _) (Opd.tmp _ _ rfl) tI) ?_
          first | refine Run.pure (dd := some 7) rfl rfl (op_assign rfl (Opd.const _)) ?_ | refine Run.pure (dd := some 7) rfl rfl (op_junk (.inr rfl)) ?_
          first | refine Run.pure (dd := some 8) rfl rfl (op_assign rfl (Opd.tmp _ _ rfl)) ?_ | refine Run.pure (dd := some 8) rfl rfl (op_junk (.inr rfl)) ?_
          refine Run.nil (FinR.mk ?_)
          refine nK ?_
          refine n_loop (ι := List Edg × List Edg) (fun s => ([(0, .sl 0 3 0 N), (1, IV .i64 N), (2, (PV.fz (.clo gf caps))), (6, IV .i64 w), (7, IV .i64 s.1.length), (8, IV .i64 (s.1.length + 2 * w : Nat))], [(0, OE (s.1 ++ bsL (ltS c) w s.2))], 1)) (fun s => s.1.length + s.2.length = N ∧ s.1 ++ bsL (ltS c) (2 * w) s.2 = bsL (ltS c) (2 * w) l) (fun s => s.2.length) ([], l) ⟨by simp [hN], rfl⟩ ?_ ?_
          · simp only [List.length_nil, Nat.zero_add, List.nil_append]
            refine Next.weakS [0] [] (by rfl) (by first | exact keeps0 hC _ | exact keepsN hC _ rfl) (by repeat (first | exact trivial | refine ⟨⟨_, rfl, .inl ⟨rfl, rfl⟩⟩, ?_⟩ | refine ⟨⟨_, rfl, .inl ⟨slEq rfl tN, rfl⟩⟩, ?_⟩ | refine ⟨⟨_, rfl, .inl ⟨ivEq tX, rfl⟩⟩, ?_⟩)) (by repeat (first | exact trivial | refine ⟨ent_same rfl rfl rfl tL, ?_⟩ | refine ⟨ent_same rfl rfl (rfEq rfl tU) tL, ?_⟩ | refine ⟨ent_same rfl rfl (flEq rfl (by first | (simp; done) | (simp; omega) | (simp [encE]; done) | simp [maxC, minC])) trivial, ?_⟩)) rfl (rel_intro)
          · intro ⟨P, R⟩ ⟨h1, h2⟩ K3 hK3
            dsimp only at h1 h2 hK3 ⊢
            have lw := bsL_len (lt := ltS c) w hw _ R (Nat.le_refl _)
            refine nK ?_
            refine s_reg rfl ?_
            first | refine Run.pure (dd := some 33) rfl rfl (op_move rfl (Opd.tmp _ _ rfl)) ?_ | refine Run.pure (dd := some 33) rfl rfl (op_junk (.inl rfl)) ?_
            first | refine Run.pure (dd := some 34) rfl rfl (op_move rfl (Opd.tmp _ _ rfl)) ?_ | refine Run.pure (dd := some 34) rfl rfl (op_junk (.inl rfl)) ?_
            refine Run.pure (dd := some 35) rfl rfl (op_leq rfl (Opd.tmp _ _ rfl) (Opd.tmp _ _ rfl)) ?_
            refine Run.nil (FinR.mk ?_)
            refine nK ?_
            refine n_cond _ rfl (fun hb => ?_) (fun hb => ?_)
            · have h3 : 2 * w ≤ R.length := by have := of_decide_eq_true hb; omega
              obtain ⟨q1, q2⟩ := bsL_two o hw h3
              have e1 : (srtS (ltS c) (R.take w)).length = w := by rw [srtS_len]; simp; omega
              have e2 : (srtS (ltS c) ((R.drop w).take w)).length = w := by rw [srtS_len]; simp; omega
              have e3 : (bsL (ltS c) w (R.drop (2 * w))).length = R.length - 2 * w := by rw [bsL_len w hw _ _ (Nat.le_refl _)]; simp
              have hr := sym_c gf caps c o hp N hn (2 * w) P (srtS (ltS c) (R.take w)) (srtS (ltS c) ((R.drop w).take w)) (bsL (ltS c) w (R.drop (2 * w))) (P ++ bsL (ltS c) w R) ((P ++ mrg (ltS c) (srtS (ltS c) (R.take w)) (srtS (ltS c) ((R.drop w).take w))) ++ bsL (ltS c) w (R.drop (2 * w))) P.length (P.length + w) (P.length + 2 * w : Nat) (by omega) (by omega) (by omega) (srtS_srt o _) (srtS_srt o _) (by omega) rfl (by omega) (by omega) (by rw [q1]) (by simp)
              have e4 : (mrg (ltS c) (srtS (ltS c) (R.take w)) (srtS (ltS c) ((R.drop w).take w))).length = 2 * w := by rw [mrg_len _ _ _ (Nat.le_refl _)]; omega
              have hK4 := hK3 (P ++ mrg (ltS c) (srtS (ltS c) (R.take w)) (srtS (ltS c) ((R.drop w).take w)), R.drop (2 * w)) ⟨by simp [e4]; omega, by
                dsimp only
                rw [← h2, q2]; simp⟩ (by simp; omega)
              dsimp only at hK4
              rw [List.length_append, e4] at hK4
              refine nK ?_
              refine s_reg rfl ?_
              first | refine Run.pure (dd := some 36) rfl rfl (op_move rfl (Opd.tmp _ _ rfl)) ?_ | refine Run.pure (dd := some 36) rfl rfl (op_junk (.inl rfl)) ?_
              first | refine Run.pure (dd := some 37) rfl rfl (op_move rfl (Opd.tmp _ _ rfl)) ?_ | refine Run.pure (dd := some 37) rfl rfl (op_junk (.inl rfl)) ?_
              first | refine Run.pure (dd := some 38) rfl rfl (op_move rfl (Opd.tmp _ _ rfl)) ?_ | refine Run.pure (dd := some 38) rfl rfl (op_junk (.inl rfl)) ?_
              first | refine Run.pure (dd := some 39) rfl rfl (op_move rfl (Opd.tmp _ _ rfl)) ?_ | refine Run.pure (dd := some 39) rfl rfl (op_junk (.inl rfl)) ?_
              refine Run.pure (dd := some 40) rfl rfl (op_add rfl (Opd.tmp _ _ rfl) (Opd.tmp _ _ rfl) tI) ?_
              first | refine Run.pure (dd := some 41) rfl rfl (op_move rfl (Opd.tmp _ _ rfl)) ?_ | refine Run.pure (dd := some 41) rfl rfl (op_junk (.inl rfl)) ?_
              first | refine Run.pure (dd := some 42) rfl rfl (op_move rfl (Opd.tmp _ _ rfl)) ?_ | refine Run.pure (dd := some 42) rfl rfl (op_junk (.inl rfl)) ?_
              refine Run.eff (dd := some 43) rfl rfl (op_call (n := 1) (n' := 1) [0] (fun _ => hr) rfl (Opd.func _) (Opds.cons _ _ _ _ (Opd.tmp _ _ rfl) (Opds.cons _ _ _ _ (Opd.tmp _ _ rfl) (Opds.cons _ _ _ _ (Opd.tmp _ _ rfl) (Opds.cons _ _ _ _ (Opd.tmp _ _ rfl) (Opds.cons _ _ _ _ (Opd.tmp _ _ rfl) Opds.nil))))) rfl rfl (Lent.of rfl rfl (by exact ⟨⟨rfl, rfl, rfl, trivial⟩, trivial⟩) rfl) rfl rfl rfl rfl rfl) ?_
              refine Run.nil (FinR.mk ?_)
              refine nK ?_
              refine s_reg rfl ?_
              first | refine Run.pure (dd := some 44) rfl rfl (op_move rfl (Opd.tmp _ _ rfl)) ?_ | refine Run.pure (dd := some 44) rfl rfl (op_junk (.inl rfl)) ?_
              first | refine Run.pure (dd := some 7) rfl rfl (op_assign rfl (Opd.tmp _ _ rfl)) ?_ | refine Run.pure (dd := some 7) rfl rfl (op_junk (.inr rfl)) ?_
              refine Run.nil (FinR.mk ?_)
              refine nK ?_
              refine s_reg rfl ?_
              first | refine Run.pure (dd := some 45) rfl rfl (op_move rfl (Opd.tmp _ _ rfl)) ?_ | refine Run.pure (dd := some 45) rfl rfl (op_junk (.inl rfl)) ?_
              first | refine Run.pure (dd := some 46) rfl rfl (op_move rfl (Opd.tmp _ _ rfl)) ?_ | refine Run.pure (dd := some 46) rfl rfl (op_junk (.inl rfl)) ?_
              refine Run.pure (dd := some 47) rfl rfl (op_mul rfl (Opd.const _) (Opd.tmp _ _ rfl) tI) ?_
              refine Run.pure (dd := some 48) rfl rfl (op_add rfl (Opd.tmp _ _ rfl) (Opd.tmp _ _ rfl) tI) ?_
              first | refine Run.pure (dd := some 8) rfl rfl (op_assign rfl (Opd.tmp _ _ rfl)) ?_ | refine Run.pure (dd := some 8) rfl rfl (op_junk (.inr rfl)) ?_
              refine Run.nil (FinR.mk ?_)
              refine nK ?_
              refine Next.weakS [0] [] (by rfl) (by first | exact keeps0 hC _ | exact keepsN hC _ rfl) (by repeat (first | exact trivial | refine ⟨⟨_, rfl, .inl ⟨rfl, rfl⟩⟩, ?_⟩ | refine ⟨⟨_, rfl, .inl ⟨slEq rfl tN, rfl⟩⟩, ?_⟩ | refine ⟨⟨_, rfl, .inl ⟨ivEq tX, rfl⟩⟩, ?_⟩)) (by repeat (first | exact trivial | refine ⟨ent_same rfl rfl rfl tL, ?_⟩ | refine ⟨ent_same rfl rfl (rfEq rfl tU) tL, ?_⟩ | refine ⟨ent_same rfl rfl (flEq rfl (by first | (simp; done) | (simp; omega) | (simp [encE]; done) | simp [maxC, minC])) trivial, ?_⟩)) rfl (hK4)
            · have h3 : R.length < 2 * w := by have := of_decide_eq_false hb; omega
              have hK5 := hK2 (w * 2) ⟨by omega, by omega⟩ (by omega)
              rw [Nat.mul_comm w 2, ← h2] at hK5
              clear hK3
              refine nK ?_
              refine s_reg rfl ?_
              first | refine Run.pure (dd := some 49) rfl rfl (op_move rfl (Opd.tmp _ _ rfl)) ?_ | refine Run.pure (dd := some 49) rfl rfl (op_junk (.inl rfl)) ?_
              first | refine Run.pure (dd := some 50) rfl rfl (op_move rfl (Opd.tmp _ _ rfl)) ?_ | refine Run.pure (dd := some 50) rfl rfl (op_junk (.inl rfl)) ?_
              refine Run.pure (dd := some 51) rfl rfl (op_add rfl (Opd.tmp _ _ rfl) (Opd.tmp _ _ rfl) tI) ?_
              first | refine Run.pure (dd := some 9) rfl rfl (op_assign rfl (Opd.tmp _ _ rfl)) ?_ | refine Run.pure (dd := some 9) rfl rfl (op_junk (.inr rfl)) ?_
              refine Run.nil (FinR.mk ?_)
              refine nK ?_
              refine s_reg rfl ?_
              first | refine Run.pure (dd := some 52) rfl rfl (op_move rfl (Opd.tmp _ _ rfl)) ?_ | refine Run.pure (dd := some 52) rfl rfl (op_junk (.inl rfl)) ?_
              first | refine Run.pure (dd := some 53) rfl rfl (op_move rfl (Opd.tmp _ _ rfl)) ?_ | refine Run.pure (dd := some 53) rfl rfl (op_junk (.inl rfl)) ?_
              refine Run.pure (dd := some 54) rfl rfl (op_lss rfl (Opd.tmp _ _ rfl) (Opd.tmp _ _ rfl)) ?_
              refine Run.nil (FinR.mk ?_)
              refine nK ?_
              refine n_cond _ rfl (fun hb => ?_) (fun hb => ?_)
              · have h4 : w < R.length := by have := of_decide_eq_true hb; omega
                obtain ⟨q1, q2⟩ := bsL_last o hw h4 h3
                have e1 : (srtS (ltS c) (R.take w)).length = w := by rw [srtS_len]; simp; omega
                have e2 : (srtS (ltS c) (R.drop w)).length = R.length - w := by rw [srtS_len]; simp
                have hr := sym_c gf caps c o hp N hn (2 * w) P (srtS (ltS c) (R.take w)) (srtS (ltS c) (R.drop w)) [] (P ++ bsL (ltS c) w R) (P ++ bsL (ltS c) (2 * w) R) P.length (P.length + w) N (by omega) (by omega) (by omega) (srtS_srt o _) (srtS_srt o _) (by simp; omega) rfl (by omega) (by omega) (by rw [q1]; simp) (by rw [q2]; simp)
                refine nK ?_
                refine s_reg rfl ?_
                first | refine Run.pure (dd := some 55) rfl rfl (op_move rfl (Opd.tmp _ _ rfl)) ?_ | refine Run.pure (dd := some 55) rfl rfl (op_junk (.inl rfl)) ?_
                first | refine Run.pure (dd := some 56) rfl rfl (op_move rfl (Opd.tmp _ _ rfl)) ?_ | refine Run.pure (dd := some 56) rfl rfl (op_junk (.inl rfl)) ?_
                first | refine Run.pure (dd := some 57) rfl rfl (op_move rfl (Opd.tmp _ _ rfl)) ?_ | refine Run.pure (dd := some 57) rfl rfl (op_junk (.inl rfl)) ?_
                first | refine Run.pure (dd := some 58) rfl rfl (op_move rfl (Opd.tmp _ _ rfl)) ?_ | refine Run.pure (dd := some 58) rfl rfl (op_junk (.inl rfl)) ?_
                first | refine Run.pure (dd := some 59) rfl rfl (op_move rfl (Opd.tmp _ _ rfl)) ?_ | refine Run.pure (dd := some 59) rfl rfl (op_junk (.inl rfl)) ?_
                refine Run.eff (dd := some 60) rfl rfl (op_call (n := 1) (n' := 1) [0] (fun _ => hr) rfl (Opd.func _) (Opds.cons _ _ _ _ (Opd.tmp _ _ rfl) (Opds.cons _ _ _ _ (Opd.tmp _ _ rfl) (Opds.cons _ _ _ _ (Opd.tmp _ _ rfl) (Opds.cons _ _ _ _ (Opd.tmp _ _ rfl) (Opds.cons _ _ _ _ (Opd.tmp _ _ rfl) Opds.nil))))) rfl rfl (Lent.of rfl rfl (by exact ⟨⟨rfl, rfl, rfl, trivial⟩, trivial⟩) rfl) rfl rfl rfl rfl rfl) ?_
                refine Run.nil (FinR.mk ?_)
                refine nK ?_
                refine s_reg rfl ?_
                first | refine Run.pure (dd := some 61) rfl rfl (op_move rfl (Opd.tmp _ _ rfl)) ?_ | refine Run.pure (dd := some 61) rfl rfl (op_junk (.inl rfl)) ?_
                refine Run.pure (dd := some 62) rfl rfl (op_mul rfl (Opd.tmp _ _ rfl) (Opd.const _) tI) ?_
                first | refine Run.pure (dd := some 6) rfl rfl (op_assign rfl (Opd.tmp _ _ rfl)) ?_ | refine Run.pure (dd := some 6) rfl rfl (op_junk (.inr rfl)) ?_
                refine Run.nil (FinR.mk ?_)
                refine nK ?_
                refine Next.weakS [0] [] (by rfl) (by first | exact keeps0 hC _ | exact keepsN hC _ rfl) (by repeat (first | exact trivial | refine ⟨⟨_, rfl, .inl ⟨rfl, rfl⟩⟩, ?_⟩ | refine ⟨⟨_, rfl, .inl ⟨slEq rfl tN, rfl⟩⟩, ?_⟩ | refine ⟨⟨_, rfl, .inl ⟨ivEq tX, rfl⟩⟩, ?_⟩)) (by repeat (first | exact trivial | refine ⟨ent_same rfl rfl rfl tL, ?_⟩ | refine ⟨ent_same rfl rfl (rfEq rfl tU) tL, ?_⟩ | refine ⟨ent_same rfl rfl (flEq rfl (by first | (simp; done) | (simp; omega) | (simp [encE]; done) | simp [maxC, minC])) trivial, ?_⟩)) rfl (hK5)
              · have h4 : R.length ≤ w := by have := of_decide_eq_false hb; omega
                rw [bsL_small (w := w) h4]
                rw [bsL_small (w := 2 * w) (by omega)] at hK5
                refine nK ?_
                refine s_reg rfl ?_
                first | refine Run.pure (dd := some 61) rfl rfl (op_move rfl (Opd.tmp _ _ rfl)) ?_ | refine Run.pure (dd := some 61) rfl rfl (op_junk (.inl rfl)) ?_
                refine Run.pure (dd := some 62) rfl rfl (op_mul rfl (Opd.tmp _ _ rfl) (Opd.const _) tI) ?_
                first | refine Run.pure (dd := some 6) rfl rfl (op_assign rfl (Opd.tmp _ _ rfl)) ?_ | refine Run.pure (dd := some 6) rfl rfl (op_junk (.inr rfl)) ?_
                refine Run.nil (FinR.mk ?_)
                refine nK ?_
                refine Next.weakS [0] [] (by rfl) (by first | exact keeps0 hC _ | exact keepsN hC _ rfl) (by repeat (first | exact trivial | refine ⟨⟨_, rfl, .inl ⟨rfl, rfl⟩⟩, ?_⟩ | refine ⟨⟨_, rfl, .inl ⟨slEq rfl tN, rfl⟩⟩, ?_⟩ | refine ⟨⟨_, rfl, .inl ⟨ivEq tX, rfl⟩⟩, ?_⟩)) (by repeat (first | exact trivial | refine ⟨ent_same rfl rfl rfl tL, ?_⟩ | refine ⟨ent_same rfl rfl (rfEq rfl tU) tL, ?_⟩ | refine ⟨ent_same rfl rfl (flEq rfl (by first | (simp; done) | (simp; omega) | (simp [encE]; done) | simp [maxC, minC])) trivial, ?_⟩)) rfl (hK5)
        · have hwn : N ≤ w := by have := of_decide_eq_false hb; omega
          rw [bsL_small (by omega)]
          refine nK ?_
          refine Next.weak [0] [] (by rfl) (keepsN hC _ rfl) (G' := []) (H' := [(0, OE (srtS (ltS c) l))]) trivial (by exact ⟨ent_same rfl rfl rfl tL, trivial⟩) (fun _ h => by simp at h) ?_
          exact n_out0 rfl
theorem sortS_c (gf : Nat) [FnB Try.prog gf] (caps : List FV) (c : Edg → Edg → Int) (o : Go.Pl.SW (ltS c)) (hp : ∀ x y, Pure Try.prog gf ([.agg (encE x), .agg (encE y)] ++ caps) (If .i64 (c x y))) (l : List Edg) (hn : l.length ≤ 2000000) :
    Meets Try.prog 15 [.sl 0 3 0 l.length, (PV.fz (.clo gf caps))] 1 [(0, OE l)] (.fz (.tup [])) [(0, OE (srtS (ltS c) l))] 1 := by
  have hr := stable_c gf caps c o hp l hn
  refine Meets.intro Try.func15 rfl (Nat.le_of_ble_eq_true rfl) fun C hC => ?_
  simp only [List.map, argEnv, Nat.reduceAdd]
  refine nK ?_
  refine s_reg rfl ?_
  first | refine Run.pure (dd := some 4) rfl rfl (op_move rfl (Opd.tmp _ _ rfl)) ?_ | refine Run.pure (dd := some 4) rfl rfl (op_junk (.inl rfl)) ?_
  first | refine Run.pure (dd := some 5) rfl rfl (op_move rfl (Opd.tmp _ _ rfl)) ?_ | refine Run.pure (dd := some 5) rfl rfl (op_junk (.inl rfl)) ?_
  first | refine Run.pure (dd := some 6) rfl rfl (op_len_fz rfl (by first | exact Opd.tmp _ _ rfl | exact Opd.nil _ _ (Opd.tmp _ _ rfl)) (by first | exact List.length_map _ | rfl)) ?_ | refine Run.pure (dd := some 6) rfl rfl (op_len_sl rfl (Opd.tmp _ _ rfl)) ?_
  first | refine Run.pure (dd := some 7) rfl rfl (op_move rfl (Opd.tmp _ _ rfl)) ?_ | refine Run.pure (dd := some 7) rfl rfl (op_junk (.inl rfl)) ?_
  refine Run.eff (dd := some 8) rfl rfl (op_call (n := 1) (n' := 1) [0] (fun _ => hr) rfl (Opd.func _) (Opds.cons _ _ _ _ (Opd.tmp _ _ rfl) (Opds.cons _ _ _ _ (Opd.tmp _ _ rfl) (Opds.cons _ _ _ _ (Opd.tmp _ _ rfl) Opds.nil))) rfl rfl (Lent.of rfl rfl (by exact ⟨⟨rfl, rfl, rfl, trivial⟩, trivial⟩) rfl) rfl rfl rfl rfl rfl) ?_
  refine Run.nil (FinR.mk ?_)
  refine nK ?_
  refine Next.weak [0] [] (by rfl) (keepsN hC _ rfl) (G' := []) (H' := [(0, OE (srtS (ltS c) l))]) trivial (by exact ⟨ent_same rfl rfl rfl tL, trivial⟩) (fun _ h => by simp at h) ?_
  exact n_out0 rfl
end Go.Proofs.Ytdbdajokdipmlaa
