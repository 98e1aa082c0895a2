/- A part of the proof: LG. -/
import Derived.Test.YtelnedgopdlnkaaZD
set_option linter.all false
/- How the arguments of the rows read. -/
namespace Go.Proofs.Ytelnedgopdlnkaa
open Go Go.RT Go.Proofs Go.Pl
set_option linter.all false
variable {H : Type} {enc : TypeId × Value → H} {W : World} {ok : DataW H → Prop} {B : Nat}
theorem rdc_n : RdC ok enc Try.prog W 3 (fun fs => ∃ n, inr .i64 n ∧ fs = [If .i64 n]) := rdc_int (P := Try.prog) (t := 3) inferInstance
theorem rdc_edge (dn : DnOk H ok B) : RdC ok enc Try.prog W 39 (fun fs => ∃ e : Edg, okE e ∧ fs = encE e) :=
  (rdc_struct (P := Try.prog) (t := 39) dn Try.underlying39 (by kernel_rfl) (.cons _ _ _ _ rdc_n (.cons _ _ _ _ rdc_n (.cons _ _ _ _ rdc_n .nil)))).imp fun fs h => by
    obtain ⟨_, _, rfl, ⟨a, ha, rfl⟩, _, _, rfl, ⟨b, hb, rfl⟩, _, _, rfl, ⟨c, hc, rfl⟩, rfl⟩ := h
    exact ⟨⟨a, b, c⟩, ⟨ha, hb, hc⟩, rfl⟩
theorem rdc_edges (dn : DnOk H ok B) : RdC ok enc Try.prog W 22 (fun fs => ∃ l : List Edg, okEs l ∧ l.length ≤ B ∧ fs = [VE l]) :=
  (rdc_slice (P := Try.prog) (t := 22) (e := 39) dn inferInstance inferInstance (by decide) (rdc_edge dn)).imp fun fs h => by
    obtain ⟨rows, hr, hl, rfl⟩ := h
    obtain ⟨l, rfl, ho⟩ := rows_of (fun fs h => h) hr
    exact ⟨l, ho, by simpa using hl, rfl⟩
theorem rdc_graph (dn : DnOk H ok B) : RdC ok enc Try.prog W 24 (fun fs => ∃ g : Gr, okG g ∧ g.es.length ≤ B ∧ fs = encG g) :=
  (rdc_struct (P := Try.prog) (t := 24) dn Try.underlying24 (by kernel_rfl) (.cons _ _ _ _ rdc_n (.cons _ _ _ _ rdc_n (.cons _ _ _ _ (rdc_edges dn) .nil)))).imp fun fs h => by
    obtain ⟨_, _, rfl, ⟨a, ha, rfl⟩, _, _, rfl, ⟨b, hb, rfl⟩, _, _, rfl, ⟨l, hl, hB, rfl⟩, rfl⟩ := h
    exact ⟨⟨a, b, l⟩, ⟨ha, hb, hl⟩, hB, rfl⟩
end Go.Proofs.Ytelnedgopdlnkaa
