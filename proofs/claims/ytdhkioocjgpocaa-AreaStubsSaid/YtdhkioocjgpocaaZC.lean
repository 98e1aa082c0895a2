/- A part of the proof: TabA, G0, A1, GP1, A2, A3, GP2, SRT, SRI0, GP3, A4, LayA, A5, A6, GP4, A7, GP5, GP6, GP7. -/
import Derived.Test.YtdhkioocjgpocaaZB
import Derived.Test.YtdhkioocjgpocaaChecked
import Derived.Eval
import Derived.Shelf.SlSortCmp.NoneTotal
import Derived.Shelf.SlLaysF0
import Derived.Ground.SlsfProg
set_option linter.all false
/- The types and functions of the translation, as the rules ask for them. Written by tab.py. -/
namespace Go.Proofs.Ytdhkioocjgpocaa
open Go Go.RT Go.Proofs
set_option linter.unusedVariables false
theorem mixed : Try.prog.follows .mixedOrders = true := Try.checked.mixed
theorem tyn_of {P : Program} {t : TypeId} {s b : Nat} {z : Value} (h : (P.info? t).map (fun i => (i.size, i.bytes, i.zero)) = some (s, b, some z)) : TyN P t s b z := by
  obtain ⟨i, hi, he⟩ := Option.map_eq_some_iff.1 h
  simp only [Prod.mk.injEq] at he
  exact ⟨i, hi, he.1, he.2.1, he.2.2⟩
instance : TyA Try.prog 1 false := ⟨_, Try.underlying1, rfl⟩
instance : TyN Try.prog 1 1 8 (.nilFunc) := tyn_of (by kernel_rfl)
instance : TyD Try.prog 2 (.int .i64) := ⟨Try.underlying2⟩
instance : TyA Try.prog 2 false := ⟨_, Try.underlying2, rfl⟩
instance : TyN Try.prog 2 1 8 (.int .i64 0) := tyn_of (by kernel_rfl)
instance : TyD Try.prog 3 (.int .i64) := ⟨Try.underlying3⟩
instance : TyA Try.prog 3 false := ⟨_, Try.underlying3, rfl⟩
instance : TyN Try.prog 3 1 8 (.int .i64 0) := tyn_of (by kernel_rfl)
instance : TyD Try.prog 4 (.bool) := ⟨Try.underlying4⟩
instance : TyA Try.prog 4 false := ⟨_, Try.underlying4, rfl⟩
instance : TyN Try.prog 4 1 1 (.bool false) := tyn_of (by kernel_rfl)
instance : TyD Try.prog 5 (.int .u8) := ⟨Try.underlying5⟩
instance : TyA Try.prog 5 false := ⟨_, Try.underlying5, rfl⟩
instance : TyN Try.prog 5 1 1 (.int .u8 0) := tyn_of (by kernel_rfl)
instance : TyD Try.prog 9 (.string) := ⟨Try.underlying9⟩
instance : TyA Try.prog 9 false := ⟨_, Try.underlying9, rfl⟩
instance : TyN Try.prog 9 1 16 (.string ⟨#[]⟩) := tyn_of (by kernel_rfl)
instance : TyD Try.prog 12 (.int .u64) := ⟨Try.underlying12⟩
instance : TyA Try.prog 12 false := ⟨_, Try.underlying12, rfl⟩
instance : TyN Try.prog 12 1 8 (.int .u64 0) := tyn_of (by kernel_rfl)
instance : TyA Try.prog 13 true := ⟨_, Try.underlying13, rfl⟩
instance : TyN Try.prog 13 2 24 (.agg #[.string ⟨#[]⟩, .int .u64 0]) := tyn_of (by kernel_rfl)
instance : TyF Try.prog 13 0 0 9 := ⟨_, _, Try.underlying13, rfl, rfl, rfl⟩
instance : TyF Try.prog 13 1 1 12 := ⟨_, _, Try.underlying13, rfl, rfl, rfl⟩
instance : TyB Try.prog 13 [(0, 1), (1, 1)] := ⟨_, Try.underlying13, fun w => by kernel_rfl⟩
instance : TyD Try.prog 21 (.int .i32) := ⟨Try.underlying21⟩
instance : TyA Try.prog 21 false := ⟨_, Try.underlying21, rfl⟩
instance : TyN Try.prog 21 1 4 (.int .i32 0) := tyn_of (by kernel_rfl)
instance : TyD Try.prog 22 (.slice 48) := ⟨Try.underlying22⟩
instance : TyA Try.prog 22 false := ⟨_, Try.underlying22, rfl⟩
instance : TyN Try.prog 22 1 24 (.slice none 0 0) := tyn_of (by kernel_rfl)
instance : TyD Try.prog 23 (.int .i64) := ⟨Try.underlying23⟩
instance : TyA Try.prog 23 false := ⟨_, Try.underlying23, rfl⟩
instance : TyN Try.prog 23 1 8 (.int .i64 0) := tyn_of (by kernel_rfl)
instance : TyA Try.prog 24 false := ⟨_, Try.underlying24, rfl⟩
instance : TyN Try.prog 24 1 8 (.nilFunc) := tyn_of (by kernel_rfl)
instance : TyA Try.prog 25 false := ⟨_, Try.underlying25, rfl⟩
instance : TyN Try.prog 25 1 8 (.nilFunc) := tyn_of (by kernel_rfl)
instance : TyD Try.prog 26 (.slice 41) := ⟨Try.underlying26⟩
instance : TyA Try.prog 26 false := ⟨_, Try.underlying26, rfl⟩
instance : TyN Try.prog 26 1 24 (.slice none 0 0) := tyn_of (by kernel_rfl)
instance : TyA Try.prog 27 true := ⟨_, Try.underlying27, rfl⟩
instance : TyN Try.prog 27 3 40 (.agg #[.int .i64 0, .int .i64 0, .slice none 0 0]) := tyn_of (by kernel_rfl)
instance : TyF Try.prog 27 0 0 3 := ⟨_, _, Try.underlying27, rfl, rfl, rfl⟩
instance : TyF Try.prog 27 1 1 3 := ⟨_, _, Try.underlying27, rfl, rfl, rfl⟩
instance : TyF Try.prog 27 2 2 26 := ⟨_, _, Try.underlying27, rfl, rfl, rfl⟩
instance : TyB Try.prog 27 [(0, 1), (1, 1), (2, 1)] := ⟨_, Try.underlying27, fun w => by kernel_rfl⟩
instance : TyA Try.prog 28 true := ⟨_, Try.underlying28, rfl⟩
instance : TyN Try.prog 28 3 40 (.agg #[.int .i64 0, .int .i64 0, .slice none 0 0]) := tyn_of (by kernel_rfl)
instance : TyF Try.prog 28 0 0 3 := ⟨_, _, Try.underlying28, rfl, rfl, rfl⟩
instance : TyF Try.prog 28 1 1 3 := ⟨_, _, Try.underlying28, rfl, rfl, rfl⟩
instance : TyF Try.prog 28 2 2 26 := ⟨_, _, Try.underlying28, rfl, rfl, rfl⟩
instance : TyB Try.prog 28 [(0, 1), (1, 1), (2, 1)] := ⟨_, Try.underlying28, fun w => by kernel_rfl⟩
instance : TyD Try.prog 29 (.slice 42) := ⟨Try.underlying29⟩
instance : TyA Try.prog 29 false := ⟨_, Try.underlying29, rfl⟩
instance : TyN Try.prog 29 1 24 (.slice none 0 0) := tyn_of (by kernel_rfl)
instance : TyD Try.prog 30 (.slice 68) := ⟨Try.underlying30⟩
instance : TyA Try.prog 30 false := ⟨_, Try.underlying30, rfl⟩
instance : TyN Try.prog 30 1 24 (.slice none 0 0) := tyn_of (by kernel_rfl)
instance : TyA Try.prog 31 true := ⟨_, Try.underlying31, rfl⟩
instance : TyN Try.prog 31 5 88 (.agg #[.int .i64 0, .int .i64 0, .slice none 0 0, .slice none 0 0, .slice none 0 0]) := tyn_of (by kernel_rfl)
instance : TyF Try.prog 31 0 0 28 := ⟨_, _, Try.underlying31, rfl, rfl, rfl⟩
instance : TyF Try.prog 31 1 3 29 := ⟨_, _, Try.underlying31, rfl, rfl, rfl⟩
instance : TyF Try.prog 31 2 4 30 := ⟨_, _, Try.underlying31, rfl, rfl, rfl⟩
instance : TyB Try.prog 31 [(0, 3), (3, 1), (4, 1)] := ⟨_, Try.underlying31, fun w => by kernel_rfl⟩
instance : TyA Try.prog 32 true := ⟨_, Try.underlying32, rfl⟩
instance : TyN Try.prog 32 5 88 (.agg #[.int .i64 0, .int .i64 0, .slice none 0 0, .slice none 0 0, .slice none 0 0]) := tyn_of (by kernel_rfl)
instance : TyF Try.prog 32 0 0 28 := ⟨_, _, Try.underlying32, rfl, rfl, rfl⟩
instance : TyF Try.prog 32 1 3 29 := ⟨_, _, Try.underlying32, rfl, rfl, rfl⟩
instance : TyF Try.prog 32 2 4 30 := ⟨_, _, Try.underlying32, rfl, rfl, rfl⟩
instance : TyB Try.prog 32 [(0, 3), (3, 1), (4, 1)] := ⟨_, Try.underlying32, fun w => by kernel_rfl⟩
instance : TyA Try.prog 34 false := ⟨_, Try.underlying34, rfl⟩
instance : TyN Try.prog 34 1 8 (.nilFunc) := tyn_of (by kernel_rfl)
instance : TyA Try.prog 35 false := ⟨_, Try.underlying35, rfl⟩
instance : TyN Try.prog 35 1 8 (.nilFunc) := tyn_of (by kernel_rfl)
instance : TyA Try.prog 36 false := ⟨_, Try.underlying36, rfl⟩
instance : TyN Try.prog 36 1 8 (.nilFunc) := tyn_of (by kernel_rfl)
instance : TyA Try.prog 37 false := ⟨_, Try.underlying37, rfl⟩
instance : TyN Try.prog 37 1 8 (.nilFunc) := tyn_of (by kernel_rfl)
instance : TyA Try.prog 39 false := ⟨_, Try.underlying39, rfl⟩
instance : TyN Try.prog 39 1 8 (.nilFunc) := tyn_of (by kernel_rfl)
instance : TyA Try.prog 40 true := ⟨_, Try.underlying40, rfl⟩
instance : TyN Try.prog 40 3 24 (.agg #[.int .i64 0, .int .i64 0, .int .i64 0]) := tyn_of (by kernel_rfl)
instance : TyF Try.prog 40 0 0 3 := ⟨_, _, Try.underlying40, rfl, rfl, rfl⟩
instance : TyF Try.prog 40 1 1 3 := ⟨_, _, Try.underlying40, rfl, rfl, rfl⟩
instance : TyF Try.prog 40 2 2 3 := ⟨_, _, Try.underlying40, rfl, rfl, rfl⟩
instance : EqS Try.prog 40 3 := ⟨by kernel_rfl, by kernel_rfl, by kernel_rfl, by kernel_rfl⟩
instance : TyB Try.prog 40 [(0, 1), (1, 1), (2, 1)] := ⟨_, Try.underlying40, fun w => by kernel_rfl⟩
instance : TyA Try.prog 41 true := ⟨_, Try.underlying41, rfl⟩
instance : TyN Try.prog 41 3 24 (.agg #[.int .i64 0, .int .i64 0, .int .i64 0]) := tyn_of (by kernel_rfl)
instance : TyF Try.prog 41 0 0 3 := ⟨_, _, Try.underlying41, rfl, rfl, rfl⟩
instance : TyF Try.prog 41 1 1 3 := ⟨_, _, Try.underlying41, rfl, rfl, rfl⟩
instance : TyF Try.prog 41 2 2 3 := ⟨_, _, Try.underlying41, rfl, rfl, rfl⟩
instance : EqS Try.prog 41 3 := ⟨by kernel_rfl, by kernel_rfl, by kernel_rfl, by kernel_rfl⟩
instance : TyB Try.prog 41 [(0, 1), (1, 1), (2, 1)] := ⟨_, Try.underlying41, fun w => by kernel_rfl⟩
instance : TyD Try.prog 42 (.int .u32) := ⟨Try.underlying42⟩
instance : TyA Try.prog 42 false := ⟨_, Try.underlying42, rfl⟩
instance : TyN Try.prog 42 1 4 (.int .u32 0) := tyn_of (by kernel_rfl)
instance : TyA Try.prog 43 true := ⟨_, Try.underlying43, rfl⟩
instance : TyN Try.prog 43 7 56 (.agg #[.int .i64 0, .int .u32 0, .int .i64 0, .int .u32 0, .int .i64 0, .int .i64 0, .int .i64 0]) := tyn_of (by kernel_rfl)
instance : TyF Try.prog 43 0 0 3 := ⟨_, _, Try.underlying43, rfl, rfl, rfl⟩
instance : TyF Try.prog 43 1 1 42 := ⟨_, _, Try.underlying43, rfl, rfl, rfl⟩
instance : TyF Try.prog 43 2 2 3 := ⟨_, _, Try.underlying43, rfl, rfl, rfl⟩
instance : TyF Try.prog 43 3 3 42 := ⟨_, _, Try.underlying43, rfl, rfl, rfl⟩
instance : TyF Try.prog 43 4 4 3 := ⟨_, _, Try.underlying43, rfl, rfl, rfl⟩
instance : TyF Try.prog 43 5 5 3 := ⟨_, _, Try.underlying43, rfl, rfl, rfl⟩
instance : TyF Try.prog 43 6 6 3 := ⟨_, _, Try.underlying43, rfl, rfl, rfl⟩
instance : EqS Try.prog 43 7 := ⟨by kernel_rfl, by kernel_rfl, by kernel_rfl, by kernel_rfl⟩
instance : TyB Try.prog 43 [(0, 1), (1, 1), (2, 1), (3, 1), (4, 1), (5, 1), (6, 1)] := ⟨_, Try.underlying43, fun w => by kernel_rfl⟩
instance : TyA Try.prog 44 true := ⟨_, Try.underlying44, rfl⟩
instance : TyN Try.prog 44 7 56 (.agg #[.int .i64 0, .int .u32 0, .int .i64 0, .int .u32 0, .int .i64 0, .int .i64 0, .int .i64 0]) := tyn_of (by kernel_rfl)
instance : TyF Try.prog 44 0 0 3 := ⟨_, _, Try.underlying44, rfl, rfl, rfl⟩
instance : TyF Try.prog 44 1 1 42 := ⟨_, _, Try.underlying44, rfl, rfl, rfl⟩
instance : TyF Try.prog 44 2 2 3 := ⟨_, _, Try.underlying44, rfl, rfl, rfl⟩
instance : TyF Try.prog 44 3 3 42 := ⟨_, _, Try.underlying44, rfl, rfl, rfl⟩
instance : TyF Try.prog 44 4 4 3 := ⟨_, _, Try.underlying44, rfl, rfl, rfl⟩
instance : TyF Try.prog 44 5 5 3 := ⟨_, _, Try.underlying44, rfl, rfl, rfl⟩
instance : TyF Try.prog 44 6 6 3 := ⟨_, _, Try.underlying44, rfl, rfl, rfl⟩
instance : EqS Try.prog 44 7 := ⟨by kernel_rfl, by kernel_rfl, by kernel_rfl, by kernel_rfl⟩
instance : TyB Try.prog 44 [(0, 1), (1, 1), (2, 1), (3, 1), (4, 1), (5, 1), (6, 1)] := ⟨_, Try.underlying44, fun w => by kernel_rfl⟩
instance : TyD Try.prog 45 (.slice 50) := ⟨Try.underlying45⟩
instance : TyA Try.prog 45 false := ⟨_, Try.underlying45, rfl⟩
instance : TyN Try.prog 45 1 24 (.slice none 0 0) := tyn_of (by kernel_rfl)
instance : TyD Try.prog 46 (.int .u32) := ⟨Try.underlying46⟩
instance : TyA Try.prog 46 false := ⟨_, Try.underlying46, rfl⟩
instance : TyN Try.prog 46 1 4 (.int .u32 0) := tyn_of (by kernel_rfl)
instance : TyA Try.prog 47 true := ⟨_, Try.underlying47, rfl⟩
instance : TyN Try.prog 47 15 136 (.agg #[.int .i64 0, .int .u32 0, .int .i64 0, .int .u32 0, .int .i64 0, .int .i64 0, .int .i64 0, .bool false, .bool false, .slice none 0 0, .slice none 0 0, .int .i64 0, .bool false, .int .u32 0, .int .i64 0]) := tyn_of (by kernel_rfl)
instance : TyF Try.prog 47 0 0 44 := ⟨_, _, Try.underlying47, rfl, rfl, rfl⟩
instance : TyF Try.prog 47 1 7 4 := ⟨_, _, Try.underlying47, rfl, rfl, rfl⟩
instance : TyF Try.prog 47 2 8 4 := ⟨_, _, Try.underlying47, rfl, rfl, rfl⟩
instance : TyF Try.prog 47 3 9 45 := ⟨_, _, Try.underlying47, rfl, rfl, rfl⟩
instance : TyF Try.prog 47 4 10 29 := ⟨_, _, Try.underlying47, rfl, rfl, rfl⟩
instance : TyF Try.prog 47 5 11 3 := ⟨_, _, Try.underlying47, rfl, rfl, rfl⟩
instance : TyF Try.prog 47 6 12 4 := ⟨_, _, Try.underlying47, rfl, rfl, rfl⟩
instance : TyF Try.prog 47 7 13 46 := ⟨_, _, Try.underlying47, rfl, rfl, rfl⟩
instance : TyF Try.prog 47 8 14 3 := ⟨_, _, Try.underlying47, rfl, rfl, rfl⟩
instance : TyB Try.prog 47 [(0, 7), (7, 1), (8, 1), (9, 1), (10, 1), (11, 1), (12, 1), (13, 1), (14, 1)] := ⟨_, Try.underlying47, fun w => by kernel_rfl⟩
instance : TyA Try.prog 48 true := ⟨_, Try.underlying48, rfl⟩
instance : TyN Try.prog 48 15 136 (.agg #[.int .i64 0, .int .u32 0, .int .i64 0, .int .u32 0, .int .i64 0, .int .i64 0, .int .i64 0, .bool false, .bool false, .slice none 0 0, .slice none 0 0, .int .i64 0, .bool false, .int .u32 0, .int .i64 0]) := tyn_of (by kernel_rfl)
instance : TyF Try.prog 48 0 0 44 := ⟨_, _, Try.underlying48, rfl, rfl, rfl⟩
instance : TyF Try.prog 48 1 7 4 := ⟨_, _, Try.underlying48, rfl, rfl, rfl⟩
instance : TyF Try.prog 48 2 8 4 := ⟨_, _, Try.underlying48, rfl, rfl, rfl⟩
instance : TyF Try.prog 48 3 9 45 := ⟨_, _, Try.underlying48, rfl, rfl, rfl⟩
instance : TyF Try.prog 48 4 10 29 := ⟨_, _, Try.underlying48, rfl, rfl, rfl⟩
instance : TyF Try.prog 48 5 11 3 := ⟨_, _, Try.underlying48, rfl, rfl, rfl⟩
instance : TyF Try.prog 48 6 12 4 := ⟨_, _, Try.underlying48, rfl, rfl, rfl⟩
instance : TyF Try.prog 48 7 13 46 := ⟨_, _, Try.underlying48, rfl, rfl, rfl⟩
instance : TyF Try.prog 48 8 14 3 := ⟨_, _, Try.underlying48, rfl, rfl, rfl⟩
instance : TyB Try.prog 48 [(0, 7), (7, 1), (8, 1), (9, 1), (10, 1), (11, 1), (12, 1), (13, 1), (14, 1)] := ⟨_, Try.underlying48, fun w => by kernel_rfl⟩
instance : TyA Try.prog 49 true := ⟨_, Try.underlying49, rfl⟩
instance : TyN Try.prog 49 4 24 (.agg #[.int .i64 0, .int .u32 0, .int .u32 0, .int .i64 0]) := tyn_of (by kernel_rfl)
instance : TyF Try.prog 49 0 0 3 := ⟨_, _, Try.underlying49, rfl, rfl, rfl⟩
instance : TyF Try.prog 49 1 1 42 := ⟨_, _, Try.underlying49, rfl, rfl, rfl⟩
instance : TyF Try.prog 49 2 2 42 := ⟨_, _, Try.underlying49, rfl, rfl, rfl⟩
instance : TyF Try.prog 49 3 3 3 := ⟨_, _, Try.underlying49, rfl, rfl, rfl⟩
instance : EqS Try.prog 49 4 := ⟨by kernel_rfl, by kernel_rfl, by kernel_rfl, by kernel_rfl⟩
instance : TyB Try.prog 49 [(0, 1), (1, 1), (2, 1), (3, 1)] := ⟨_, Try.underlying49, fun w => by kernel_rfl⟩
instance : TyA Try.prog 50 true := ⟨_, Try.underlying50, rfl⟩
instance : TyN Try.prog 50 4 24 (.agg #[.int .i64 0, .int .u32 0, .int .u32 0, .int .i64 0]) := tyn_of (by kernel_rfl)
instance : TyF Try.prog 50 0 0 3 := ⟨_, _, Try.underlying50, rfl, rfl, rfl⟩
instance : TyF Try.prog 50 1 1 42 := ⟨_, _, Try.underlying50, rfl, rfl, rfl⟩
instance : TyF Try.prog 50 2 2 42 := ⟨_, _, Try.underlying50, rfl, rfl, rfl⟩
instance : TyF Try.prog 50 3 3 3 := ⟨_, _, Try.underlying50, rfl, rfl, rfl⟩
instance : EqS Try.prog 50 4 := ⟨by kernel_rfl, by kernel_rfl, by kernel_rfl, by kernel_rfl⟩
instance : TyB Try.prog 50 [(0, 1), (1, 1), (2, 1), (3, 1)] := ⟨_, Try.underlying50, fun w => by kernel_rfl⟩
instance : TyA Try.prog 52 false := ⟨_, Try.underlying52, rfl⟩
instance : TyN Try.prog 52 1 8 (.nilFunc) := tyn_of (by kernel_rfl)
instance : TyA Try.prog 53 false := ⟨_, Try.underlying53, rfl⟩
instance : TyN Try.prog 53 1 8 (.nilFunc) := tyn_of (by kernel_rfl)
instance : TyA Try.prog 54 false := ⟨_, Try.underlying54, rfl⟩
instance : TyN Try.prog 54 1 8 (.nilFunc) := tyn_of (by kernel_rfl)
instance : TyA Try.prog 55 false := ⟨_, Try.underlying55, rfl⟩
instance : TyN Try.prog 55 1 8 (.nilFunc) := tyn_of (by kernel_rfl)
instance : TyA Try.prog 56 false := ⟨_, Try.underlying56, rfl⟩
instance : TyN Try.prog 56 1 8 (.nilFunc) := tyn_of (by kernel_rfl)
instance : TyA Try.prog 57 false := ⟨_, Try.underlying57, rfl⟩
instance : TyN Try.prog 57 1 8 (.nilFunc) := tyn_of (by kernel_rfl)
instance : TyA Try.prog 58 false := ⟨_, Try.underlying58, rfl⟩
instance : TyN Try.prog 58 1 8 (.nilFunc) := tyn_of (by kernel_rfl)
instance : TyA Try.prog 59 false := ⟨_, Try.underlying59, rfl⟩
instance : TyN Try.prog 59 1 8 (.nilFunc) := tyn_of (by kernel_rfl)
instance : TyD Try.prog 60 (.pointer 63) := ⟨Try.underlying60⟩
instance : TyA Try.prog 60 false := ⟨_, Try.underlying60, rfl⟩
instance : TyN Try.prog 60 1 8 (.pointer none) := tyn_of (by kernel_rfl)
instance : TyD Try.prog 61 (.map 42 3) := ⟨Try.underlying61⟩
instance : TyA Try.prog 61 false := ⟨_, Try.underlying61, rfl⟩
instance : TyN Try.prog 61 1 8 (.map none) := tyn_of (by kernel_rfl)
instance : TyA Try.prog 62 true := ⟨_, Try.underlying62, rfl⟩
instance : TyN Try.prog 62 2 32 (.agg #[.map none, .slice none 0 0]) := tyn_of (by kernel_rfl)
instance : TyF Try.prog 62 0 0 61 := ⟨_, _, Try.underlying62, rfl, rfl, rfl⟩
instance : TyF Try.prog 62 1 1 26 := ⟨_, _, Try.underlying62, rfl, rfl, rfl⟩
instance : TyB Try.prog 62 [(0, 1), (1, 1)] := ⟨_, Try.underlying62, fun w => by kernel_rfl⟩
instance : TyA Try.prog 63 true := ⟨_, Try.underlying63, rfl⟩
instance : TyN Try.prog 63 2 32 (.agg #[.map none, .slice none 0 0]) := tyn_of (by kernel_rfl)
instance : TyF Try.prog 63 0 0 61 := ⟨_, _, Try.underlying63, rfl, rfl, rfl⟩
instance : TyF Try.prog 63 1 1 26 := ⟨_, _, Try.underlying63, rfl, rfl, rfl⟩
instance : TyB Try.prog 63 [(0, 1), (1, 1)] := ⟨_, Try.underlying63, fun w => by kernel_rfl⟩
instance : TyD Try.prog 64 (.map 42 65) := ⟨Try.underlying64⟩
instance : TyA Try.prog 64 false := ⟨_, Try.underlying64, rfl⟩
instance : TyN Try.prog 64 1 8 (.map none) := tyn_of (by kernel_rfl)
instance : TyD Try.prog 65 (.map 42 4) := ⟨Try.underlying65⟩
instance : TyA Try.prog 65 false := ⟨_, Try.underlying65, rfl⟩
instance : TyN Try.prog 65 1 8 (.map none) := tyn_of (by kernel_rfl)
instance : TyA Try.prog 66 false := ⟨_, Try.underlying66, rfl⟩
instance : TyN Try.prog 66 1 8 (.nilFunc) := tyn_of (by kernel_rfl)
instance : TyA Try.prog 67 true := ⟨_, Try.underlying67, rfl⟩
instance : TyN Try.prog 67 3 16 (.agg #[.int .u32 0, .int .u32 0, .int .i64 0]) := tyn_of (by kernel_rfl)
instance : TyF Try.prog 67 0 0 42 := ⟨_, _, Try.underlying67, rfl, rfl, rfl⟩
instance : TyF Try.prog 67 1 1 42 := ⟨_, _, Try.underlying67, rfl, rfl, rfl⟩
instance : TyF Try.prog 67 2 2 3 := ⟨_, _, Try.underlying67, rfl, rfl, rfl⟩
instance : EqS Try.prog 67 3 := ⟨by kernel_rfl, by kernel_rfl, by kernel_rfl, by kernel_rfl⟩
instance : TyB Try.prog 67 [(0, 1), (1, 1), (2, 1)] := ⟨_, Try.underlying67, fun w => by kernel_rfl⟩
instance : TyA Try.prog 68 true := ⟨_, Try.underlying68, rfl⟩
instance : TyN Try.prog 68 3 16 (.agg #[.int .u32 0, .int .u32 0, .int .i64 0]) := tyn_of (by kernel_rfl)
instance : TyF Try.prog 68 0 0 42 := ⟨_, _, Try.underlying68, rfl, rfl, rfl⟩
instance : TyF Try.prog 68 1 1 42 := ⟨_, _, Try.underlying68, rfl, rfl, rfl⟩
instance : TyF Try.prog 68 2 2 3 := ⟨_, _, Try.underlying68, rfl, rfl, rfl⟩
instance : EqS Try.prog 68 3 := ⟨by kernel_rfl, by kernel_rfl, by kernel_rfl, by kernel_rfl⟩
instance : TyB Try.prog 68 [(0, 1), (1, 1), (2, 1)] := ⟨_, Try.underlying68, fun w => by kernel_rfl⟩
instance : TyA Try.prog 69 false := ⟨_, Try.underlying69, rfl⟩
instance : TyN Try.prog 69 1 8 (.nilFunc) := tyn_of (by kernel_rfl)
instance : TyA Try.prog 70 false := ⟨_, Try.underlying70, rfl⟩
instance : TyN Try.prog 70 1 8 (.nilFunc) := tyn_of (by kernel_rfl)
instance : TyA Try.prog 72 false := ⟨_, Try.underlying72, rfl⟩
instance : TyN Try.prog 72 1 8 (.nilFunc) := tyn_of (by kernel_rfl)
instance : TyA Try.prog 73 false := ⟨_, Try.underlying73, rfl⟩
instance : TyN Try.prog 73 1 8 (.nilFunc) := tyn_of (by kernel_rfl)
instance : TyA Try.prog 74 false := ⟨_, Try.underlying74, rfl⟩
instance : TyN Try.prog 74 1 8 (.nilFunc) := tyn_of (by kernel_rfl)
instance : TyA Try.prog 75 false := ⟨_, Try.underlying75, rfl⟩
instance : TyN Try.prog 75 1 8 (.nilFunc) := tyn_of (by kernel_rfl)
instance : TyA Try.prog 76 false := ⟨_, Try.underlying76, rfl⟩
instance : TyN Try.prog 76 1 8 (.nilFunc) := tyn_of (by kernel_rfl)
instance : TyA Try.prog 77 false := ⟨_, Try.underlying77, rfl⟩
instance : TyN Try.prog 77 1 8 (.nilFunc) := tyn_of (by kernel_rfl)
instance : TyA Try.prog 78 false := ⟨_, Try.underlying78, rfl⟩
instance : TyN Try.prog 78 1 8 (.nilFunc) := tyn_of (by kernel_rfl)
instance : TyA Try.prog 79 false := ⟨_, Try.underlying79, rfl⟩
instance : TyN Try.prog 79 1 8 (.nilFunc) := tyn_of (by kernel_rfl)
instance : TyA Try.prog 80 false := ⟨_, Try.underlying80, rfl⟩
instance : TyN Try.prog 80 1 8 (.nilFunc) := tyn_of (by kernel_rfl)
instance : TyA Try.prog 81 false := ⟨_, Try.underlying81, rfl⟩
instance : TyN Try.prog 81 1 8 (.nilFunc) := tyn_of (by kernel_rfl)
instance : TyA Try.prog 82 false := ⟨_, Try.underlying82, rfl⟩
instance : TyN Try.prog 82 1 8 (.nilFunc) := tyn_of (by kernel_rfl)
instance : TyA Try.prog 83 false := ⟨_, Try.underlying83, rfl⟩
instance : TyN Try.prog 83 1 8 (.nilFunc) := tyn_of (by kernel_rfl)
instance : TyA Try.prog 84 false := ⟨_, Try.underlying84, rfl⟩
instance : TyN Try.prog 84 1 8 (.nilFunc) := tyn_of (by kernel_rfl)
instance : TyA Try.prog 85 false := ⟨_, Try.underlying85, rfl⟩
instance : TyN Try.prog 85 1 8 (.nilFunc) := tyn_of (by kernel_rfl)
instance : TyA Try.prog 86 false := ⟨_, Try.underlying86, rfl⟩
instance : TyN Try.prog 86 1 8 (.nilFunc) := tyn_of (by kernel_rfl)
instance : TyA Try.prog 88 false := ⟨_, Try.underlying88, rfl⟩
instance : TyN Try.prog 88 1 8 (.nilFunc) := tyn_of (by kernel_rfl)
instance : TyA Try.prog 89 true := ⟨_, Try.underlying89, rfl⟩
instance : TyN Try.prog 89 4 32 (.agg #[.int .i64 0, .int .u32 0, .int .i64 0, .int .u32 0]) := tyn_of (by kernel_rfl)
instance : TyF Try.prog 89 0 0 3 := ⟨_, _, Try.underlying89, rfl, rfl, rfl⟩
instance : TyF Try.prog 89 1 1 42 := ⟨_, _, Try.underlying89, rfl, rfl, rfl⟩
instance : TyF Try.prog 89 2 2 3 := ⟨_, _, Try.underlying89, rfl, rfl, rfl⟩
instance : TyF Try.prog 89 3 3 42 := ⟨_, _, Try.underlying89, rfl, rfl, rfl⟩
instance : EqS Try.prog 89 4 := ⟨by kernel_rfl, by kernel_rfl, by kernel_rfl, by kernel_rfl⟩
instance : TyB Try.prog 89 [(0, 1), (1, 1), (2, 1), (3, 1)] := ⟨_, Try.underlying89, fun w => by kernel_rfl⟩
instance : TyA Try.prog 90 true := ⟨_, Try.underlying90, rfl⟩
instance : TyN Try.prog 90 4 32 (.agg #[.int .i64 0, .int .u32 0, .int .i64 0, .int .u32 0]) := tyn_of (by kernel_rfl)
instance : TyF Try.prog 90 0 0 3 := ⟨_, _, Try.underlying90, rfl, rfl, rfl⟩
instance : TyF Try.prog 90 1 1 42 := ⟨_, _, Try.underlying90, rfl, rfl, rfl⟩
instance : TyF Try.prog 90 2 2 3 := ⟨_, _, Try.underlying90, rfl, rfl, rfl⟩
instance : TyF Try.prog 90 3 3 42 := ⟨_, _, Try.underlying90, rfl, rfl, rfl⟩
instance : EqS Try.prog 90 4 := ⟨by kernel_rfl, by kernel_rfl, by kernel_rfl, by kernel_rfl⟩
instance : TyB Try.prog 90 [(0, 1), (1, 1), (2, 1), (3, 1)] := ⟨_, Try.underlying90, fun w => by kernel_rfl⟩
instance : TyA Try.prog 91 false := ⟨_, Try.underlying91, rfl⟩
instance : TyN Try.prog 91 1 8 (.nilFunc) := tyn_of (by kernel_rfl)
instance : TyA Try.prog 92 false := ⟨_, Try.underlying92, rfl⟩
instance : TyN Try.prog 92 1 8 (.nilFunc) := tyn_of (by kernel_rfl)
instance : TyA Try.prog 93 false := ⟨_, Try.underlying93, rfl⟩
instance : TyN Try.prog 93 1 8 (.nilFunc) := tyn_of (by kernel_rfl)
instance : TyA Try.prog 94 false := ⟨_, Try.underlying94, rfl⟩
instance : TyN Try.prog 94 1 8 (.nilFunc) := tyn_of (by kernel_rfl)
instance : TyA Try.prog 95 false := ⟨_, Try.underlying95, rfl⟩
instance : TyN Try.prog 95 1 8 (.nilFunc) := tyn_of (by kernel_rfl)
instance : TyA Try.prog 96 false := ⟨_, Try.underlying96, rfl⟩
instance : TyN Try.prog 96 1 8 (.nilFunc) := tyn_of (by kernel_rfl)
instance : TyA Try.prog 97 false := ⟨_, Try.underlying97, rfl⟩
instance : TyN Try.prog 97 1 8 (.nilFunc) := tyn_of (by kernel_rfl)
instance : TyA Try.prog 98 false := ⟨_, Try.underlying98, rfl⟩
instance : TyN Try.prog 98 1 8 (.nilFunc) := tyn_of (by kernel_rfl)
instance : TyA Try.prog 99 false := ⟨_, Try.underlying99, rfl⟩
instance : TyN Try.prog 99 1 8 (.nilFunc) := tyn_of (by kernel_rfl)
instance : TyA Try.prog 100 false := ⟨_, Try.underlying100, rfl⟩
instance : TyN Try.prog 100 1 8 (.nilFunc) := tyn_of (by kernel_rfl)
instance : TyA Try.prog 101 false := ⟨_, Try.underlying101, rfl⟩
instance : TyN Try.prog 101 1 8 (.nilFunc) := tyn_of (by kernel_rfl)
instance : TyA Try.prog 102 false := ⟨_, Try.underlying102, rfl⟩
instance : TyN Try.prog 102 1 8 (.nilFunc) := tyn_of (by kernel_rfl)
instance : TyA Try.prog 103 false := ⟨_, Try.underlying103, rfl⟩
instance : TyN Try.prog 103 1 8 (.nilFunc) := tyn_of (by kernel_rfl)
instance : TyA Try.prog 104 false := ⟨_, Try.underlying104, rfl⟩
instance : TyN Try.prog 104 1 8 (.nilFunc) := tyn_of (by kernel_rfl)
instance : TyA Try.prog 105 false := ⟨_, Try.underlying105, rfl⟩
instance : TyN Try.prog 105 1 8 (.nilFunc) := tyn_of (by kernel_rfl)
instance : TyA Try.prog 106 false := ⟨_, Try.underlying106, rfl⟩
instance : TyN Try.prog 106 1 8 (.nilFunc) := tyn_of (by kernel_rfl)
instance : TyA Try.prog 107 false := ⟨_, Try.underlying107, rfl⟩
instance : TyN Try.prog 107 1 8 (.nilFunc) := tyn_of (by kernel_rfl)
instance : TyD Try.prog 108 (.slice 5) := ⟨Try.underlying108⟩
instance : TyA Try.prog 108 false := ⟨_, Try.underlying108, rfl⟩
instance : TyN Try.prog 108 1 24 (.slice none 0 0) := tyn_of (by kernel_rfl)
instance : TyA Try.prog 109 false := ⟨_, Try.underlying109, rfl⟩
instance : TyN Try.prog 109 1 8 (.nilFunc) := tyn_of (by kernel_rfl)
instance : TyA Try.prog 110 false := ⟨_, Try.underlying110, rfl⟩
instance : TyN Try.prog 110 1 8 (.nilFunc) := tyn_of (by kernel_rfl)
instance : TyA Try.prog 111 true := ⟨_, Try.underlying111, rfl⟩
instance : TyN Try.prog 111 4 32 (.agg #[.int .i64 0, .int .u32 0, .int .i64 0, .int .u32 0]) := tyn_of (by kernel_rfl)
instance : TyF Try.prog 111 0 0 90 := ⟨_, _, Try.underlying111, rfl, rfl, rfl⟩
instance : TyB Try.prog 111 [(0, 4)] := ⟨_, Try.underlying111, fun w => by kernel_rfl⟩
instance : TyA Try.prog 112 true := ⟨_, Try.underlying112, rfl⟩
instance : TyN Try.prog 112 4 32 (.agg #[.int .i64 0, .int .u32 0, .int .i64 0, .int .u32 0]) := tyn_of (by kernel_rfl)
instance : TyF Try.prog 112 0 0 90 := ⟨_, _, Try.underlying112, rfl, rfl, rfl⟩
instance : TyB Try.prog 112 [(0, 4)] := ⟨_, Try.underlying112, fun w => by kernel_rfl⟩
instance : TyA Try.prog 113 false := ⟨_, Try.underlying113, rfl⟩
instance : TyN Try.prog 113 1 8 (.nilFunc) := tyn_of (by kernel_rfl)
instance : TyA Try.prog 114 false := ⟨_, Try.underlying114, rfl⟩
instance : TyN Try.prog 114 1 8 (.nilFunc) := tyn_of (by kernel_rfl)
instance : TyA Try.prog 115 false := ⟨_, Try.underlying115, rfl⟩
instance : TyN Try.prog 115 1 8 (.nilFunc) := tyn_of (by kernel_rfl)
instance : TyA Try.prog 116 false := ⟨_, Try.underlying116, rfl⟩
instance : TyN Try.prog 116 1 8 (.nilFunc) := tyn_of (by kernel_rfl)
instance : TyD Try.prog 117 (.int .u64) := ⟨Try.underlying117⟩
instance : TyA Try.prog 117 false := ⟨_, Try.underlying117, rfl⟩
instance : TyN Try.prog 117 1 8 (.int .u64 0) := tyn_of (by kernel_rfl)
instance : TyD Try.prog 118 (.slice 3) := ⟨Try.underlying118⟩
instance : TyA Try.prog 118 false := ⟨_, Try.underlying118, rfl⟩
instance : TyN Try.prog 118 1 24 (.slice none 0 0) := tyn_of (by kernel_rfl)
instance : TyA Try.prog 119 false := ⟨_, Try.underlying119, rfl⟩
instance : TyN Try.prog 119 1 8 (.nilFunc) := tyn_of (by kernel_rfl)
instance : TyA Try.prog 120 false := ⟨_, Try.underlying120, rfl⟩
instance : TyN Try.prog 120 1 8 (.nilFunc) := tyn_of (by kernel_rfl)
instance : TyA Try.prog 121 false := ⟨_, Try.underlying121, rfl⟩
instance : TyN Try.prog 121 1 8 (.nilFunc) := tyn_of (by kernel_rfl)
instance : TyA Try.prog 123 false := ⟨_, Try.underlying123, rfl⟩
instance : TyN Try.prog 123 1 8 (.nilFunc) := tyn_of (by kernel_rfl)
instance : TyA Try.prog 124 false := ⟨_, Try.underlying124, rfl⟩
instance : TyN Try.prog 124 1 8 (.nilFunc) := tyn_of (by kernel_rfl)
instance : TyA Try.prog 125 false := ⟨_, Try.underlying125, rfl⟩
instance : TyN Try.prog 125 1 8 (.nilFunc) := tyn_of (by kernel_rfl)
instance : TyA Try.prog 126 false := ⟨_, Try.underlying126, rfl⟩
instance : TyN Try.prog 126 1 8 (.nilFunc) := tyn_of (by kernel_rfl)
instance : TyD Try.prog 127 (.int .u64) := ⟨Try.underlying127⟩
instance : TyA Try.prog 127 false := ⟨_, Try.underlying127, rfl⟩
instance : TyN Try.prog 127 1 8 (.int .u64 0) := tyn_of (by kernel_rfl)
instance : TyA Try.prog 128 false := ⟨_, Try.underlying128, rfl⟩
instance : TyN Try.prog 128 1 8 (.nilFunc) := tyn_of (by kernel_rfl)
instance : TyA Try.prog 129 false := ⟨_, Try.underlying129, rfl⟩
instance : TyN Try.prog 129 1 8 (.nilFunc) := tyn_of (by kernel_rfl)
instance : TyA Try.prog 130 false := ⟨_, Try.underlying130, rfl⟩
instance : TyN Try.prog 130 1 8 (.nilFunc) := tyn_of (by kernel_rfl)
instance : TyD Try.prog 131 (.int .i64) := ⟨Try.underlying131⟩
instance : TyA Try.prog 131 false := ⟨_, Try.underlying131, rfl⟩
instance : TyN Try.prog 131 1 8 (.int .i64 0) := tyn_of (by kernel_rfl)
instance : TyA Try.prog 133 false := ⟨_, Try.underlying133, rfl⟩
instance : TyN Try.prog 133 1 8 (.nilFunc) := tyn_of (by kernel_rfl)
instance : TyA Try.prog 134 false := ⟨_, Try.underlying134, rfl⟩
instance : TyN Try.prog 134 1 8 (.nilFunc) := tyn_of (by kernel_rfl)
instance : TyA Try.prog 135 false := ⟨_, Try.underlying135, rfl⟩
instance : TyN Try.prog 135 1 8 (.nilFunc) := tyn_of (by kernel_rfl)
instance : TyA Try.prog 136 false := ⟨_, Try.underlying136, rfl⟩
instance : TyN Try.prog 136 1 8 (.nilFunc) := tyn_of (by kernel_rfl)
instance : TyA Try.prog 137 false := ⟨_, Try.underlying137, rfl⟩
instance : TyN Try.prog 137 1 8 (.nilFunc) := tyn_of (by kernel_rfl)
instance : TyA Try.prog 138 false := ⟨_, Try.underlying138, rfl⟩
instance : TyN Try.prog 138 1 8 (.nilFunc) := tyn_of (by kernel_rfl)
instance : TyA Try.prog 139 false := ⟨_, Try.underlying139, rfl⟩
instance : TyN Try.prog 139 1 8 (.nilFunc) := tyn_of (by kernel_rfl)
instance : TyD Try.prog 140 (.int .u64) := ⟨Try.underlying140⟩
instance : TyA Try.prog 140 false := ⟨_, Try.underlying140, rfl⟩
instance : TyN Try.prog 140 1 8 (.int .u64 0) := tyn_of (by kernel_rfl)
instance : TyA Try.prog 141 false := ⟨_, Try.underlying141, rfl⟩
instance : TyN Try.prog 141 1 8 (.nilFunc) := tyn_of (by kernel_rfl)
instance : TyA Try.prog 142 false := ⟨_, Try.underlying142, rfl⟩
instance : TyN Try.prog 142 1 8 (.nilFunc) := tyn_of (by kernel_rfl)
instance : TyA Try.prog 143 false := ⟨_, Try.underlying143, rfl⟩
instance : TyN Try.prog 143 1 8 (.nilFunc) := tyn_of (by kernel_rfl)
instance : TyD Try.prog 144 (.pointer 3) := ⟨Try.underlying144⟩
instance : TyA Try.prog 144 false := ⟨_, Try.underlying144, rfl⟩
instance : TyN Try.prog 144 1 8 (.pointer none) := tyn_of (by kernel_rfl)
instance : TyA Try.prog 145 false := ⟨_, Try.underlying145, rfl⟩
instance : TyN Try.prog 145 1 8 (.nilFunc) := tyn_of (by kernel_rfl)
instance : TyD Try.prog 146 (.pointer 140) := ⟨Try.underlying146⟩
instance : TyA Try.prog 146 false := ⟨_, Try.underlying146, rfl⟩
instance : TyN Try.prog 146 1 8 (.pointer none) := tyn_of (by kernel_rfl)
instance : TyA Try.prog 147 false := ⟨_, Try.underlying147, rfl⟩
instance : TyN Try.prog 147 1 8 (.nilFunc) := tyn_of (by kernel_rfl)
instance : TyA Try.prog 148 false := ⟨_, Try.underlying148, rfl⟩
instance : TyN Try.prog 148 1 8 (.nilFunc) := tyn_of (by kernel_rfl)
instance : TyA Try.prog 154 false := ⟨_, Try.underlying154, rfl⟩
instance : TyN Try.prog 154 1 8 (.nilFunc) := tyn_of (by kernel_rfl)
instance : TyA Try.prog 157 false := ⟨_, Try.underlying157, rfl⟩
instance : TyN Try.prog 157 1 8 (.nilFunc) := tyn_of (by kernel_rfl)
instance : TyD Try.prog 158 (.pointer 5) := ⟨Try.underlying158⟩
instance : TyA Try.prog 158 false := ⟨_, Try.underlying158, rfl⟩
instance : TyN Try.prog 158 1 8 (.pointer none) := tyn_of (by kernel_rfl)
instance : FnB Try.prog 2 := ⟨_, Try.func2, by decide +kernel, rfl⟩
instance : FnB Try.prog 3 := ⟨_, Try.func3, by decide +kernel, rfl⟩
instance : FnB Try.prog 4 := ⟨_, Try.func4, by decide +kernel, rfl⟩
instance : FnB Try.prog 5 := ⟨_, Try.func5, by decide +kernel, rfl⟩
instance : FnB Try.prog 6 := ⟨_, Try.func6, by decide +kernel, rfl⟩
instance : FnB Try.prog 7 := ⟨_, Try.func7, by decide +kernel, rfl⟩
instance : FnB Try.prog 8 := ⟨_, Try.func8, by decide +kernel, rfl⟩
instance : FnB Try.prog 9 := ⟨_, Try.func9, by decide +kernel, rfl⟩
instance : FnB Try.prog 10 := ⟨_, Try.func10, by decide +kernel, rfl⟩
instance : FnB Try.prog 11 := ⟨_, Try.func11, by decide +kernel, rfl⟩
instance : FnB Try.prog 12 := ⟨_, Try.func12, by decide +kernel, rfl⟩
instance : FnB Try.prog 13 := ⟨_, Try.func13, by decide +kernel, rfl⟩
instance : FnB Try.prog 14 := ⟨_, Try.func14, by decide +kernel, rfl⟩
instance : FnB Try.prog 15 := ⟨_, Try.func15, by decide +kernel, rfl⟩
instance : FnB Try.prog 16 := ⟨_, Try.func16, by decide +kernel, rfl⟩
instance : FnB Try.prog 17 := ⟨_, Try.func17, by decide +kernel, rfl⟩
instance : FnB Try.prog 18 := ⟨_, Try.func18, by decide +kernel, rfl⟩
instance : FnB Try.prog 19 := ⟨_, Try.func19, by decide +kernel, rfl⟩
instance : FnB Try.prog 20 := ⟨_, Try.func20, by decide +kernel, rfl⟩
instance : FnB Try.prog 21 := ⟨_, Try.func21, by decide +kernel, rfl⟩
instance : FnB Try.prog 22 := ⟨_, Try.func22, by decide +kernel, rfl⟩
instance : FnB Try.prog 23 := ⟨_, Try.func23, by decide +kernel, rfl⟩
instance : FnB Try.prog 24 := ⟨_, Try.func24, by decide +kernel, rfl⟩
instance : FnB Try.prog 25 := ⟨_, Try.func25, by decide +kernel, rfl⟩
instance : FnB Try.prog 26 := ⟨_, Try.func26, by decide +kernel, rfl⟩
instance : FnB Try.prog 27 := ⟨_, Try.func27, by decide +kernel, rfl⟩
instance : FnB Try.prog 28 := ⟨_, Try.func28, by decide +kernel, rfl⟩
instance : FnB Try.prog 29 := ⟨_, Try.func29, by decide +kernel, rfl⟩
instance : FnB Try.prog 30 := ⟨_, Try.func30, by decide +kernel, rfl⟩
instance : FnB Try.prog 31 := ⟨_, Try.func31, by decide +kernel, rfl⟩
instance : FnB Try.prog 32 := ⟨_, Try.func32, by decide +kernel, rfl⟩
instance : FnB Try.prog 33 := ⟨_, Try.func33, by decide +kernel, rfl⟩
instance : FnB Try.prog 34 := ⟨_, Try.func34, by decide +kernel, rfl⟩
instance : FnB Try.prog 35 := ⟨_, Try.func35, by decide +kernel, rfl⟩
instance : FnB Try.prog 36 := ⟨_, Try.func36, by decide +kernel, rfl⟩
instance : FnB Try.prog 37 := ⟨_, Try.func37, by decide +kernel, rfl⟩
instance : FnB Try.prog 38 := ⟨_, Try.func38, by decide +kernel, rfl⟩
instance : FnB Try.prog 39 := ⟨_, Try.func39, by decide +kernel, rfl⟩
instance : FnB Try.prog 40 := ⟨_, Try.func40, by decide +kernel, rfl⟩
instance : FnB Try.prog 41 := ⟨_, Try.func41, by decide +kernel, rfl⟩
instance : FnB Try.prog 42 := ⟨_, Try.func42, by decide +kernel, rfl⟩
instance : FnB Try.prog 43 := ⟨_, Try.func43, by decide +kernel, rfl⟩
instance : FnB Try.prog 44 := ⟨_, Try.func44, by decide +kernel, rfl⟩
instance : FnB Try.prog 45 := ⟨_, Try.func45, by decide +kernel, rfl⟩
instance : FnB Try.prog 46 := ⟨_, Try.func46, by decide +kernel, rfl⟩
instance : FnB Try.prog 47 := ⟨_, Try.func47, by decide +kernel, rfl⟩
instance : FnB Try.prog 48 := ⟨_, Try.func48, by decide +kernel, rfl⟩
instance : FnB Try.prog 49 := ⟨_, Try.func49, by decide +kernel, rfl⟩
instance : FnB Try.prog 50 := ⟨_, Try.func50, by decide +kernel, rfl⟩
instance : FnB Try.prog 51 := ⟨_, Try.func51, by decide +kernel, rfl⟩
instance : FnB Try.prog 52 := ⟨_, Try.func52, by decide +kernel, rfl⟩
instance : FnB Try.prog 53 := ⟨_, Try.func53, by decide +kernel, rfl⟩
instance : FnB Try.prog 54 := ⟨_, Try.func54, by decide +kernel, rfl⟩
instance : FnB Try.prog 55 := ⟨_, Try.func55, by decide +kernel, rfl⟩
instance : FnB Try.prog 56 := ⟨_, Try.func56, by decide +kernel, rfl⟩
instance : FnB Try.prog 57 := ⟨_, Try.func57, by decide +kernel, rfl⟩
instance : FnB Try.prog 58 := ⟨_, Try.func58, by decide +kernel, rfl⟩
instance : FnB Try.prog 59 := ⟨_, Try.func59, by decide +kernel, rfl⟩
instance : FnB Try.prog 60 := ⟨_, Try.func60, by decide +kernel, rfl⟩
instance : FnB Try.prog 61 := ⟨_, Try.func61, by decide +kernel, rfl⟩
instance : FnB Try.prog 62 := ⟨_, Try.func62, by decide +kernel, rfl⟩
instance : FnB Try.prog 63 := ⟨_, Try.func63, by decide +kernel, rfl⟩
instance : FnB Try.prog 64 := ⟨_, Try.func64, by decide +kernel, rfl⟩
instance : FnB Try.prog 65 := ⟨_, Try.func65, by decide +kernel, rfl⟩
instance : FnB Try.prog 66 := ⟨_, Try.func66, by decide +kernel, rfl⟩
instance : FnB Try.prog 67 := ⟨_, Try.func67, by decide +kernel, rfl⟩
instance : FnB Try.prog 68 := ⟨_, Try.func68, by decide +kernel, rfl⟩
instance : FnB Try.prog 69 := ⟨_, Try.func69, by decide +kernel, rfl⟩
instance : FnB Try.prog 70 := ⟨_, Try.func70, by decide +kernel, rfl⟩
instance : FnB Try.prog 71 := ⟨_, Try.func71, by decide +kernel, rfl⟩
instance : FnB Try.prog 72 := ⟨_, Try.func72, by decide +kernel, rfl⟩
instance : FnB Try.prog 73 := ⟨_, Try.func73, by decide +kernel, rfl⟩
instance : FnB Try.prog 74 := ⟨_, Try.func74, by decide +kernel, rfl⟩
instance : FnB Try.prog 75 := ⟨_, Try.func75, by decide +kernel, rfl⟩
instance : FnB Try.prog 76 := ⟨_, Try.func76, by decide +kernel, rfl⟩
instance : FnB Try.prog 77 := ⟨_, Try.func77, by decide +kernel, rfl⟩
instance : FnB Try.prog 78 := ⟨_, Try.func78, by decide +kernel, rfl⟩
instance : FnB Try.prog 79 := ⟨_, Try.func79, by decide +kernel, rfl⟩
instance : FnB Try.prog 80 := ⟨_, Try.func80, by decide +kernel, rfl⟩
instance : FnB Try.prog 81 := ⟨_, Try.func81, by decide +kernel, rfl⟩
instance : FnB Try.prog 82 := ⟨_, Try.func82, by decide +kernel, rfl⟩
instance : FnB Try.prog 83 := ⟨_, Try.func83, by decide +kernel, rfl⟩
instance : FnB Try.prog 84 := ⟨_, Try.func84, by decide +kernel, rfl⟩
instance : FnB Try.prog 85 := ⟨_, Try.func85, by decide +kernel, rfl⟩
instance : FnB Try.prog 86 := ⟨_, Try.func86, by decide +kernel, rfl⟩
instance : FnB Try.prog 87 := ⟨_, Try.func87, by decide +kernel, rfl⟩
instance : FnB Try.prog 88 := ⟨_, Try.func88, by decide +kernel, rfl⟩
instance : FnB Try.prog 89 := ⟨_, Try.func89, by decide +kernel, rfl⟩
instance : FnB Try.prog 90 := ⟨_, Try.func90, by decide +kernel, rfl⟩
instance : FnB Try.prog 91 := ⟨_, Try.func91, by decide +kernel, rfl⟩
instance : FnB Try.prog 92 := ⟨_, Try.func92, by decide +kernel, rfl⟩
instance : FnB Try.prog 93 := ⟨_, Try.func93, by decide +kernel, rfl⟩
instance : FnB Try.prog 94 := ⟨_, Try.func94, by decide +kernel, rfl⟩
instance : FnB Try.prog 95 := ⟨_, Try.func95, by decide +kernel, rfl⟩
instance : FnB Try.prog 96 := ⟨_, Try.func96, by decide +kernel, rfl⟩
instance : FnB Try.prog 97 := ⟨_, Try.func97, by decide +kernel, rfl⟩
instance : FnB Try.prog 98 := ⟨_, Try.func98, by decide +kernel, rfl⟩
instance : FnB Try.prog 99 := ⟨_, Try.func99, by decide +kernel, rfl⟩
instance : FnB Try.prog 100 := ⟨_, Try.func100, by decide +kernel, rfl⟩
instance : FnB Try.prog 101 := ⟨_, Try.func101, by decide +kernel, rfl⟩
instance : FnB Try.prog 102 := ⟨_, Try.func102, by decide +kernel, rfl⟩
instance : FnB Try.prog 103 := ⟨_, Try.func103, by decide +kernel, rfl⟩
instance : FnB Try.prog 104 := ⟨_, Try.func104, by decide +kernel, rfl⟩
instance : FnB Try.prog 105 := ⟨_, Try.func105, by decide +kernel, rfl⟩
instance : FnB Try.prog 106 := ⟨_, Try.func106, by decide +kernel, rfl⟩
instance : FnB Try.prog 107 := ⟨_, Try.func107, by decide +kernel, rfl⟩
instance : FnB Try.prog 108 := ⟨_, Try.func108, by decide +kernel, rfl⟩
end Go.Proofs.Ytdhkioocjgpocaa
/- Graphs, their edges, and what the functions on them compute. No program in sight. -/
namespace Go.Pl
open Go.RT
set_option linter.all false
def cmpI (a b : Int) : Int := if a < b then -1 else if a > b then 1 else 0
instance (k : IntKind) (n : Int) : Decidable (inr k n) := by cases k <;> unfold inr <;> infer_instance
structure Edg where
 f : Int
 t : Int
 c : Int
 deriving DecidableEq
structure Gr where
 r : Int
 n : Int
 es : List Edg
 deriving DecidableEq
def encE (e : Edg) : List FV := [If .i64 e.f, If .i64 e.t, If .i64 e.c]
abbrev VE (l : List Edg) : FV := .vals 3 (l.map encE)
def encG (g : Gr) : List FV := [If .i64 g.r, If .i64 g.n, VE g.es]
def encN (x : Int) : List FV := [If .i64 x]
abbrev VI (l : List Int) : FV := .vals 1 (l.map encN)
def encB (x : Bool) : List FV := [Bf x]
def okE (e : Edg) : Prop := inr .i64 e.f ∧ inr .i64 e.t ∧ inr .i64 e.c
def okEs (l : List Edg) : Prop := ∀ e ∈ l, okE e
def okG (g : Gr) : Prop := inr .i64 g.r ∧ inr .i64 g.n ∧ okEs g.es
theorem eqFs_encE (a b : Edg) : eqFs (encE a) (encE b) = decide (a = b) := by
 cases a; cases b
 simp [encE, eqFs, Bool.decide_and, and_assoc]
def ordE (a b : Edg) : Int := if cmpI a.f b.f ≠ 0 then cmpI a.f b.f else cmpI a.t b.t
def befB (a b : Edg) : Bool := decide (a.f < b.f) || decide (a.f = b.f) && decide (a.t < b.t)
theorem ordE_ge (a b : Edg) : decide (0 ≤ ordE a b) = !befB a b := by
 rw [Bool.eq_iff_iff]
 unfold ordE cmpI befB
 simp only [decide_eq_true_eq, Bool.not_eq_true', Bool.or_eq_false_iff, decide_eq_false_iff_not, Bool.and_eq_false_iff]
 by_cases h1 : a.f < b.f
 ·simp [h1]
 ·by_cases h2 : a.f > b.f
  ·have : ¬ a.f = b.f := by omega
   simp [h1, h2, this]
  ·have : a.f = b.f := by omega
   simp [this]
   by_cases h3 : a.t < b.t
   ·simp [h3]
   ·by_cases h4 : a.t > b.t <;> simp [h3, h4] <;> omega
def szOk (g : Gr) : Prop := 0 ≤ g.r ∧ 0 ≤ g.n ∧ g.r + g.n ≤ 128
def sizeI (g : Gr) : Int := if g.r < 0 ∨ g.n < 0 then 5 else if g.r > 128 ∨ g.n > 128 ∨ g.r + g.n > 128 ∨ 1024 < g.es.length then 4 else 0
def nodeB (g : Gr) (x : Int) : Bool := decide (0 ≤ x) && decide (x < g.r + g.n)
def alwI (g : Gr) (e : Edg) : Int := if nodeB g e.f = false ∨ nodeB g e.t = false then 5 else
 if e.f = e.t ∨ (g.r ≤ e.f ∧ g.r ≤ e.t) ∨ (g.r ≤ e.f ∧ e.c ≠ 0) ∨ (e.f < g.r ∧ (e.c < 1 ∨ 65535 < e.c)) then 1 else 0
theorem sizeI_ok {g : Gr} (h : sizeI g = 0) : szOk g ∧ g.es.length ≤ 1024 := by
 unfold sizeI at h
 by_cases h1 : g.r < 0 ∨ g.n < 0
 ·rw [if_pos h1] at h; cases h
 ·rw [if_neg h1] at h
  by_cases h2 : g.r > 128 ∨ g.n > 128 ∨ g.r + g.n > 128 ∨ 1024 < g.es.length
  ·rw [if_pos h2] at h; cases h
  ·exact ⟨⟨by omega, by omega, by omega⟩, by omega⟩
def badP : Option Edg → Edg → Bool
 | some q, e => !befB q e
 | none, _ => false
def chkL (g : Gr) : Option Edg → List Edg → Int
 | _, [] => 0
 | p, e :: l => if alwI g e ≠ 0 then alwI g e else if badP p e = true then 16 else chkL g (some e) l
def checkI (g : Gr) : Int := if sizeI g ≠ 0 then sizeI g else chkL g none g.es
def prevO (l : List Edg) (i : Nat) : Option Edg := if i = 0 then none else l[i - 1]?
theorem prevO_succ {l : List Edg} {i : Nat} (h : i < l.length) : prevO l (i + 1) = some l[i] := by simp [prevO, h]
/-- one round of the check -/
theorem chk_step {g : Gr} {l : List Edg} {i : Nat} (h : i < l.length) : chkL g (prevO l i) (l.drop i) = if alwI g l[i] ≠ 0 then alwI g l[i] else if badP (prevO l i) l[i] = true then 16 else chkL g (prevO l (i + 1)) (l.drop (i + 1)) := by
 rw [List.drop_eq_getElem_cons h, prevO_succ h]; rfl
theorem row_at' {α : Type} (f : α → List FV) (l : List α) (i : Nat) (h : i < l.length) : (l.map f)[i]? = some (f l[i]) := by simp [h]
theorem take_len_eq' {α : Type} {l : List α} {i : Nat} (h : i = l.length) : l.take i = l := by subst h; exact List.take_length
end Go.Pl
namespace Go.Proofs.Ytdhkioocjgpocaa
open Go Go.RT Go.Proofs Go.Pl
set_option linter.all false
set_option maxRecDepth 20000
theorem nan_c (a : Int) : Pure Try.prog 79 [If .i64 a] (Bf false) := by
  rw [show (false) = decide (a ≠ a) by simp]
  refine Meets.intro Try.func79 rfl (Nat.le_of_ble_eq_true rfl) fun C hC => ?_
  simp only [List.map, argEnv, Nat.reduceAdd]
  refine nK ?_
  refine s_reg rfl ?_
  refine Run.pure (dd := some 2) rfl rfl (op_assign rfl (Opd.const _)) ?_
  refine Run.nil (FinR.mk ?_)
  refine nK ?_
  refine s_reg rfl ?_
  refine Run.pure (dd := some 3) rfl rfl (op_move rfl (Opd.tmp _ _ rfl)) ?_
  refine Run.pure (dd := some 4) rfl rfl (op_move rfl (Opd.tmp _ _ rfl)) ?_
  refine Run.pure (dd := some 5) rfl rfl (op_neq rfl (Opd.tmp _ _ rfl) (Opd.tmp _ _ rfl)) ?_
  refine Run.pure (dd := some 2) rfl rfl (op_assign rfl (Opd.tmp _ _ rfl)) ?_
  refine Run.nil (FinR.mk ?_)
  refine nK ?_
  (first | exact s_o1 hC rfl tV | exact s_o2 hC rfl tV tV | exact s_o3 hC rfl tV tV tV | exact s_o4 hC rfl tV tV tV tV | exact s_out0 hC rfl | exact s_outO hC rfl rfl rfl)
theorem cmp_c (a b : Int) : Pure Try.prog 58 [If .i64 a, If .i64 b] (If .i64 (cmpI a b)) := by
  refine Meets.intro Try.func58 rfl (Nat.le_of_ble_eq_true rfl) fun C hC => ?_
  simp only [List.map, argEnv, Nat.reduceAdd]
  refine nK ?_
  refine s_reg rfl ?_
  refine Run.pure (dd := some 4) rfl rfl (op_assign rfl (Opd.const _)) ?_
  refine Run.nil (FinR.mk ?_)
  refine nK ?_
  refine s_reg rfl ?_
  refine Run.pure (dd := some 7) rfl rfl (op_move rfl (Opd.tmp _ _ rfl)) ?_
  refine Run.pure (dd := some 8) rfl rfl (op_call_pure (fun _ => nan_c _) rfl (Opd.func _) (Opds.cons _ _ _ _ (Opd.tmp _ _ rfl) Opds.nil)) ?_
  refine Run.pure (dd := some 5) rfl rfl (op_assign rfl (Opd.tmp _ _ rfl)) ?_
  refine Run.nil (FinR.mk ?_)
  refine nK ?_
  refine s_reg rfl ?_
  refine Run.pure (dd := some 9) rfl rfl (op_move rfl (Opd.tmp _ _ rfl)) ?_
  refine Run.pure (dd := some 10) rfl rfl (op_call_pure (fun _ => nan_c _) rfl (Opd.func _) (Opds.cons _ _ _ _ (Opd.tmp _ _ rfl) Opds.nil)) ?_
  refine Run.pure (dd := some 6) rfl rfl (op_assign rfl (Opd.tmp _ _ rfl)) ?_
  refine Run.nil (FinR.mk ?_)
  refine nK ?_
  refine s_reg rfl ?_
  refine Run.pure (dd := some 11) rfl rfl (op_move rfl (Opd.tmp _ _ rfl)) ?_
  refine Run.nil (FinR.mk ?_)
  refine nK ?_
  refine n_cond _ rfl (fun hb => ?_) (fun hb => ?_)
  · cases hb
  · refine nK ?_
    refine s_reg rfl ?_
    refine Run.pure (dd := some 13) rfl rfl (op_move rfl (Opd.tmp _ _ rfl)) ?_
    refine Run.nil (FinR.mk ?_)
    refine nK ?_
    refine n_cond _ rfl (fun hb => ?_) (fun hb => ?_)
    · cases hb
    · unfold cmpI
      refine nK ?_
      refine s_reg rfl ?_
      refine Run.pure (dd := some 14) rfl rfl (op_move rfl (Opd.tmp _ _ rfl)) ?_
      refine Run.pure (dd := some 15) rfl rfl (op_move rfl (Opd.tmp _ _ rfl)) ?_
      refine Run.pure (dd := some 16) rfl rfl (op_lss rfl (Opd.tmp _ _ rfl) (Opd.tmp _ _ rfl)) ?_
      refine Run.nil (FinR.mk ?_)
      refine nK ?_
      refine n_cond _ rfl (fun hb => ?_) (fun hb => ?_)
      · rw [if_pos (by simpa using hb)]
        refine nK ?_
        refine s_reg rfl ?_
        refine Run.pure (dd := some 4) rfl rfl (op_assign rfl (Opd.const _)) ?_
        refine Run.nil (FinR.mk ?_)
        refine nK ?_
        (first | exact s_o1 hC rfl tV | exact s_o2 hC rfl tV tV | exact s_o3 hC rfl tV tV tV | exact s_o4 hC rfl tV tV tV tV | exact s_out0 hC rfl | exact s_outO hC rfl rfl rfl)
      · rw [if_neg (by simpa using hb)]
        refine nK ?_
        refine s_reg rfl ?_
        refine Run.pure (dd := some 17) rfl rfl (op_move rfl (Opd.tmp _ _ rfl)) ?_
        refine Run.pure (dd := some 18) rfl rfl (op_move rfl (Opd.tmp _ _ rfl)) ?_
        refine Run.pure (dd := some 19) rfl rfl (op_gtr rfl (Opd.tmp _ _ rfl) (Opd.tmp _ _ rfl)) ?_
        refine Run.nil (FinR.mk ?_)
        refine nK ?_
        refine n_cond _ rfl (fun hb => ?_) (fun hb => ?_)
        · rw [if_pos (by simpa using hb)]
          refine nK ?_
          refine s_reg rfl ?_
          refine Run.pure (dd := some 4) rfl rfl (op_assign rfl (Opd.const _)) ?_
          refine Run.nil (FinR.mk ?_)
          refine nK ?_
          (first | exact s_o1 hC rfl tV | exact s_o2 hC rfl tV tV | exact s_o3 hC rfl tV tV tV | exact s_o4 hC rfl tV tV tV tV | exact s_out0 hC rfl | exact s_outO hC rfl rfl rfl)
        · rw [if_neg (by simpa using hb)]
          refine nK ?_
          refine s_reg rfl ?_
          refine Run.pure (dd := some 4) rfl rfl (op_assign rfl (Opd.const _)) ?_
          refine Run.nil (FinR.mk ?_)
          refine nK ?_
          (first | exact s_o1 hC rfl tV | exact s_o2 hC rfl tV tV | exact s_o3 hC rfl tV tV tV | exact s_o4 hC rfl tV tV tV tV | exact s_out0 hC rfl | exact s_outO hC rfl rfl rfl)
def orI : List Int → Int
  | [] => 0
  | x :: l => if x ≠ 0 then x else orI l
theorem or_c (l : List Int) (hn : l.length ≤ 1000000) : Pure Try.prog 56 [VI l] (If .i64 (orI l)) := by
  refine Meets.intro Try.func56 rfl (Nat.le_of_ble_eq_true rfl) fun C hC => ?_
  simp only [List.map, argEnv, Nat.reduceAdd]
  refine nK ?_
  refine s_reg rfl ?_
  refine Run.pure (dd := some 2) rfl rfl (op_assign rfl (Opd.const _)) ?_
  refine Run.nil (FinR.mk ?_)
  refine nK ?_
  refine s_reg rfl ?_
  refine Run.pure (dd := some 3) rfl rfl (op_assign rfl (Opd.const _)) ?_
  refine Run.nil (FinR.mk ?_)
  refine nK ?_
  refine s_reg rfl ?_
  refine Run.pure (dd := some 6) rfl rfl (op_move rfl (Opd.tmp _ _ rfl)) ?_
  refine Run.pure (dd := some 7) rfl rfl (op_len_fz rfl (by first | exact Opd.tmp _ _ rfl | exact Opd.nil _ _ (Opd.tmp _ _ rfl)) (by first | exact List.length_map _ | rfl)) ?_
  refine Run.pure (dd := some 8) rfl rfl (op_move rfl (Opd.const _)) ?_
  refine Run.nil (FinR.mk ?_)
  refine nK ?_
  refine n_loop (ι := Nat) (fun i => ([(3, IV .i64 0), (6, .fz (VI l)), (7, IV .i64 l.length), (8, IV .i64 i)], [], 0)) (fun i => i ≤ l.length ∧ orI (l.drop i) = orI l) (fun i => l.length - i) 0 ⟨Nat.zero_le _, rfl⟩ ?_ ?_
  · refine Next.weak [] [] (by rfl) (keeps0 hC _) (by repeat (first | exact trivial | refine ⟨⟨_, rfl, .inl ⟨rfl, rfl⟩⟩, ?_⟩)) (by repeat (first | exact trivial | refine ⟨ent_same rfl rfl rfl tL, ?_⟩ | refine ⟨ent_same rfl rfl (rfEq rfl tU) tL, ?_⟩ | refine ⟨ent_same rfl rfl (flEq rfl (by first | (simp; done) | (simp; omega) | (simp [encP]; done) | simp [maxC, minC])) trivial, ?_⟩)) (fun _ h => by simp at h) rel_intro
  · intro i ⟨hi, ho⟩ K hK
    refine nK ?_
    refine s_reg rfl ?_
    refine Run.pure (dd := some 9) rfl rfl (op_lss rfl (Opd.tmp _ _ rfl) (Opd.tmp _ _ rfl)) ?_
    refine Run.nil (FinR.mk ?_)
    refine nK ?_
    refine n_cond _ rfl (fun hb => ?_) (fun hb => ?_)
    · have hlt : i < l.length := by simp at hb; omega
      have hr1 := row_at' encN l i hlt
      rw [List.drop_eq_getElem_cons hlt] at ho
      simp only [orI] at ho
      have hK1 := fun h => hK (i + 1) ⟨by omega, h⟩ (by omega)
      generalize l[i] = x at *
      refine nK ?_
      refine s_reg rfl ?_
      refine Run.pure (dd := some 10) rfl rfl (op_idx_fz _ rfl (Opd.tmp _ _ rfl) (Opd.tmp _ _ rfl) tF) ?_
      refine Run.pure (dd := some 11) rfl rfl (op_load1_fz rfl (Opd.tmp _ _ rfl) rfl) ?_
      refine Run.pure (dd := some 5) rfl rfl (op_assign rfl (Opd.tmp _ _ rfl)) ?_
      refine Run.nil (FinR.mk ?_)
      refine nK ?_
      refine s_reg rfl ?_
      refine Run.pure (dd := some 12) rfl rfl (op_move rfl (Opd.tmp _ _ rfl)) ?_
      refine Run.pure (dd := some 13) rfl rfl (op_move rfl (Opd.tmp _ _ rfl)) ?_
      refine Run.pure (dd := some 14) rfl rfl (op_neq rfl (Opd.tmp _ _ rfl) (Opd.tmp _ _ rfl)) ?_
      refine Run.nil (FinR.mk ?_)
      refine nK ?_
      refine n_cond _ rfl (fun hb => ?_) (fun hb => ?_)
      · rw [if_pos (by simpa using hb)] at ho
        rw [← ho]
        refine nK ?_
        refine s_reg rfl ?_
        refine Run.pure (dd := some 15) rfl rfl (op_move rfl (Opd.tmp _ _ rfl)) ?_
        refine Run.pure (dd := some 2) rfl rfl (op_assign rfl (Opd.tmp _ _ rfl)) ?_
        refine Run.nil (FinR.mk ?_)
        refine nK ?_
        (first | exact s_o1 hC rfl tV | exact s_o2 hC rfl tV tV | exact s_o3 hC rfl tV tV tV | exact s_o4 hC rfl tV tV tV tV | exact s_out0 hC rfl | exact s_outO hC rfl rfl rfl)
      · rw [if_neg (by simpa using hb)] at ho
        refine nK ?_
        refine s_reg rfl ?_
        refine Run.pure (dd := some 16) rfl rfl (op_add rfl (Opd.tmp _ _ rfl) (Opd.const _) tI) ?_
        refine Run.pure (dd := some 8) rfl rfl (op_move rfl (Opd.tmp _ _ rfl)) ?_
        refine Run.nil (FinR.mk ?_)
        refine nK ?_
        refine Next.weak [] [] (by rfl) (keeps0 hC _) (by repeat (first | exact trivial | refine ⟨⟨_, rfl, .inl ⟨rfl, rfl⟩⟩, ?_⟩)) (by repeat (first | exact trivial | refine ⟨ent_same rfl rfl rfl tL, ?_⟩ | refine ⟨ent_same rfl rfl (rfEq rfl tU) tL, ?_⟩ | refine ⟨ent_same rfl rfl (flEq rfl (by first | (simp; done) | (simp; omega) | (simp [encP]; done) | simp [maxC, minC])) trivial, ?_⟩)) (fun _ h => by simp at h) (hK1 ho)
    · have hie : i = l.length := by simp at hb; omega
      rw [hie, List.drop_length] at ho
      rw [← ho]
      refine nK ?_
      refine s_reg rfl ?_
      refine Run.pure (dd := some 17) rfl rfl (op_move rfl (Opd.tmp _ _ rfl)) ?_
      refine Run.pure (dd := some 2) rfl rfl (op_assign rfl (Opd.tmp _ _ rfl)) ?_
      refine Run.nil (FinR.mk ?_)
      refine nK ?_
      (first | exact s_o1 hC rfl tV | exact s_o2 hC rfl tV tV | exact s_o3 hC rfl tV tV tV | exact s_o4 hC rfl tV tV tV tV | exact s_out0 hC rfl | exact s_outO hC rfl rfl rfl)
theorem order_c (a b : Edg) : Pure Try.prog 57 [.agg (encE a), .agg (encE b)] (If .i64 (ordE a b)) := by
  have e : ordE a b = orI [cmpI a.f b.f, cmpI a.t b.t] := by
    unfold ordE orI
    simp only [orI]
    by_cases h : cmpI a.f b.f = 0
    · by_cases h2 : cmpI a.t b.t = 0 <;> simp [h, h2]
    · simp [h]
  have ho := or_c [cmpI a.f b.f, cmpI a.t b.t] (by simp)
  rw [← e] at ho
  refine Meets.intro Try.func57 rfl (Nat.le_of_ble_eq_true rfl) fun C hC => ?_
  simp only [List.map, argEnv, Nat.reduceAdd]
  refine nK ?_
  refine s_reg rfl ?_
  refine Run.eff (dd := some 2) rfl rfl (op_box_flat rfl (Opd.tmp _ _ rfl) tC rfl) ?_
  refine Run.eff (dd := some 3) rfl rfl (op_box_flat rfl (Opd.tmp _ _ rfl) tC rfl) ?_
  refine Run.pure (dd := some 4) rfl rfl (op_assign rfl (Opd.const _)) ?_
  refine Run.nil (FinR.mk ?_)
  refine nK ?_
  refine s_draw mixed ?_
  refine Run.pure (dd := some 5) rfl rfl (op_fld_ptr (by decide) rfl (Opd.tmp _ _ rfl)) ?_
  refine Run.load (dd := some 6) rfl rfl (op_load1_flat rfl (Opd.tmp _ _ rfl) tH rfl) ?_
  refine Run.pure (dd := some 7) rfl rfl (op_fld_ptr (by decide) rfl (Opd.tmp _ _ rfl)) ?_
  refine Run.load (dd := some 8) rfl rfl (op_load1_flat rfl (Opd.tmp _ _ rfl) tH rfl) ?_
  refine Run.pure (dd := some 9) rfl rfl (op_call_pure (fun _ => cmp_c _ _) rfl (Opd.func _) (Opds.cons _ _ _ _ (Opd.tmp _ _ rfl) (Opds.cons _ _ _ _ (Opd.tmp _ _ rfl) Opds.nil))) ?_
  refine Run.pure (dd := some 10) rfl rfl (op_fld_ptr (by decide) rfl (Opd.tmp _ _ rfl)) ?_
  refine Run.load (dd := some 11) rfl rfl (op_load1_flat rfl (Opd.tmp _ _ rfl) tH rfl) ?_
  refine Run.pure (dd := some 12) rfl rfl (op_fld_ptr (by decide) rfl (Opd.tmp _ _ rfl)) ?_
  refine Run.load (dd := some 13) rfl rfl (op_load1_flat rfl (Opd.tmp _ _ rfl) tH rfl) ?_
  refine Run.pure (dd := some 14) rfl rfl (op_call_pure (fun _ => cmp_c _ _) rfl (Opd.func _) (Opds.cons _ _ _ _ (Opd.tmp _ _ rfl) (Opds.cons _ _ _ _ (Opd.tmp _ _ rfl) Opds.nil))) ?_
  refine Run.pure (dd := some 15) rfl rfl (op_buildSlice_fz rfl (RowsF.cons _ _ _ _ _ _ (Opd.tmp _ _ rfl) tC (by rfl) (RowsF.cons _ _ _ _ _ _ (Opd.tmp _ _ rfl) tC (by rfl) (RowsF.nil _))) rfl rfl) ?_
  refine Run.pure (dd := some 16) rfl rfl (op_call_pure (fun _ => ho) rfl (Opd.func _) (Opds.cons _ _ _ _ (Opd.tmp _ _ rfl) Opds.nil)) ?_
  refine Run.pure (dd := some 4) rfl rfl (op_assign rfl (Opd.tmp _ _ rfl)) ?_
  refine Run.nil (FinD.mk (by kernel_rfl) ?_)
  refine nK ?_
  (first | exact s_o1 hC rfl tV | exact s_o2 hC rfl tV tV | exact s_o3 hC rfl tV tV tV | exact s_o4 hC rfl tV tV tV tV | exact s_out0 hC rfl | exact s_outO hC rfl rfl rfl)
theorem before_c (a b : Edg) : Pure Try.prog 37 [.agg (encE a), .agg (encE b)] (Bf (befB a b)) := by
  refine Meets.intro Try.func37 rfl (Nat.le_of_ble_eq_true rfl) fun C hC => ?_
  simp only [List.map, argEnv, Nat.reduceAdd]
  refine nK ?_
  refine s_reg rfl ?_
  refine Run.eff (dd := some 2) rfl rfl (op_box_flat rfl (Opd.tmp _ _ rfl) tC rfl) ?_
  refine Run.eff (dd := some 3) rfl rfl (op_box_flat rfl (Opd.tmp _ _ rfl) tC rfl) ?_
  refine Run.pure (dd := some 4) rfl rfl (op_assign rfl (Opd.const _)) ?_
  refine Run.nil (FinR.mk ?_)
  refine nK ?_
  refine s_reg rfl ?_
  refine Run.pure (dd := some 5) rfl rfl (op_fld_ptr (by decide) rfl (Opd.tmp _ _ rfl)) ?_
  refine Run.load (dd := some 6) rfl rfl (op_load1_flat rfl (Opd.tmp _ _ rfl) tH rfl) ?_
  refine Run.pure (dd := some 7) rfl rfl (op_fld_ptr (by decide) rfl (Opd.tmp _ _ rfl)) ?_
  refine Run.load (dd := some 8) rfl rfl (op_load1_flat rfl (Opd.tmp _ _ rfl) tH rfl) ?_
  refine Run.pure (dd := some 9) rfl rfl (op_lss rfl (Opd.tmp _ _ rfl) (Opd.tmp _ _ rfl)) ?_
  refine Run.pure (dd := some 10) rfl rfl (op_move rfl (Opd.tmp _ _ rfl)) ?_
  refine Run.pureG (dd := some 11) rfl rfl rfl tG (op_fld_ptr (by decide) rfl (Opd.tmp _ _ rfl)) ?_
  refine Run.loadG (dd := some 12) rfl rfl rfl tG (op_load1_flat rfl (Opd.topt _ _ _ rfl tO) tH rfl) ?_
  refine Run.pureG (dd := some 13) rfl rfl rfl tG (op_fld_ptr (by decide) rfl (Opd.tmp _ _ rfl)) ?_
  refine Run.loadG (dd := some 14) rfl rfl rfl tG (op_load1_flat rfl (Opd.topt _ _ _ rfl tO) tH rfl) ?_
  refine Run.pureG (dd := some 15) rfl rfl rfl tG (op_eql rfl (Opd.topt _ _ _ rfl tO) (Opd.topt _ _ _ rfl tO)) ?_
  refine Run.pureG (dd := some 16) rfl rfl rfl tG (op_move rfl (Opd.topt _ _ _ rfl tO)) ?_
  refine Run.pureG (dd := some 17) rfl rfl rfl tG (op_fld_ptr (by decide) rfl (Opd.tmp _ _ rfl)) ?_
  refine Run.loadG (dd := some 18) rfl rfl rfl tG (op_load1_flat rfl (Opd.topt _ _ _ rfl tO) tH rfl) ?_
  refine Run.pureG (dd := some 19) rfl rfl rfl tG (op_fld_ptr (by decide) rfl (Opd.tmp _ _ rfl)) ?_
  refine Run.loadG (dd := some 20) rfl rfl rfl tG (op_load1_flat rfl (Opd.topt _ _ _ rfl tO) tH rfl) ?_
  refine Run.pureG (dd := some 21) rfl rfl rfl tG (op_lss rfl (Opd.topt _ _ _ rfl tO) (Opd.topt _ _ _ rfl tO)) ?_
  refine Run.pureG (dd := some 22) rfl rfl rfl tG (op_pick_and rfl (Opd.topt _ _ _ rfl tO) (Opd.topt _ _ _ rfl tO)) ?_
  refine Run.pure (dd := some 23) rfl rfl (op_pick_or rfl (Opd.tmp _ _ rfl) (Opd.topt _ _ _ rfl tO)) ?_
  refine Run.pure (dd := some 4) rfl rfl (op_assign rfl (Opd.tmp _ _ rfl)) ?_
  refine Run.nil (FinR.mk ?_)
  refine nK ?_
  (first | exact s_o1 hC rfl tV | exact s_o2 hC rfl tV tV | exact s_o3 hC rfl tV tV tV | exact s_o4 hC rfl tV tV tV tV | exact s_out0 hC rfl | exact s_outO hC rfl rfl rfl)
theorem size_c (g : Gr) (hg : okG g) : Pure Try.prog 80 [.agg (encG g)] (If .i64 (sizeI g)) := by
  obtain ⟨g1, g2, g3⟩ := hg
  simp only [inr] at g1 g2
  unfold sizeI
  refine Meets.intro Try.func80 rfl (Nat.le_of_ble_eq_true rfl) fun C hC => ?_
  simp only [List.map, argEnv, Nat.reduceAdd]
  refine nK ?_
  refine s_reg rfl ?_
  refine Run.eff (dd := some 1) rfl rfl (op_box_flat rfl (Opd.tmp _ _ rfl) tC rfl) ?_
  refine Run.pure (dd := some 2) rfl rfl (op_assign rfl (Opd.const _)) ?_
  refine Run.nil (FinR.mk ?_)
  refine nK ?_
  refine s_reg rfl ?_
  refine Run.pure (dd := some 4) rfl rfl (op_fld_ptr (by decide) rfl (Opd.tmp _ _ rfl)) ?_
  refine Run.load (dd := some 5) rfl rfl (op_load1_flat rfl (Opd.tmp _ _ rfl) tH rfl) ?_
  refine Run.pure (dd := some 6) rfl rfl (op_lss rfl (Opd.tmp _ _ rfl) (Opd.const _)) ?_
  refine Run.pure (dd := some 7) rfl rfl (op_move rfl (Opd.tmp _ _ rfl)) ?_
  refine Run.pureG (dd := some 8) rfl rfl rfl tG (op_fld_ptr (by decide) rfl (Opd.tmp _ _ rfl)) ?_
  refine Run.loadG (dd := some 9) rfl rfl rfl tG (op_load1_flat rfl (Opd.topt _ _ _ rfl tO) tH rfl) ?_
  refine Run.pureG (dd := some 10) rfl rfl rfl tG (op_lss rfl (Opd.topt _ _ _ rfl tO) (Opd.const _)) ?_
  refine Run.pure (dd := some 11) rfl rfl (op_pick_or rfl (Opd.tmp _ _ rfl) (Opd.topt _ _ _ rfl tO)) ?_
  refine Run.pure (dd := some 3) rfl rfl (op_assign rfl (Opd.tmp _ _ rfl)) ?_
  refine Run.nil (FinR.mk ?_)
  refine nK ?_
  refine n_cond _ rfl (fun hb => ?_) (fun hb => ?_)
  · rw [if_pos (by simpa using hb)]
    refine nK ?_
    refine s_reg rfl ?_
    refine Run.pure (dd := some 2) rfl rfl (op_assign rfl (Opd.const _)) ?_
    refine Run.nil (FinR.mk ?_)
    refine nK ?_
    (first | exact s_o1 hC rfl tV | exact s_o2 hC rfl tV tV | exact s_o3 hC rfl tV tV tV | exact s_o4 hC rfl tV tV tV tV | exact s_out0 hC rfl | exact s_outO hC rfl rfl rfl)
  · rw [if_neg (by simp at hb; omega)]
    have h0 : 0 ≤ g.r ∧ 0 ≤ g.n := by simp at hb; omega
    refine nK ?_
    refine s_reg rfl ?_
    refine Run.pure (dd := some 13) rfl rfl (op_fld_ptr (by decide) rfl (Opd.tmp _ _ rfl)) ?_
    refine Run.load (dd := some 14) rfl rfl (op_load1_flat rfl (Opd.tmp _ _ rfl) tH rfl) ?_
    refine Run.pure (dd := some 15) rfl rfl (op_gtr rfl (Opd.tmp _ _ rfl) (Opd.const _)) ?_
    refine Run.pure (dd := some 16) rfl rfl (op_move rfl (Opd.tmp _ _ rfl)) ?_
    refine Run.pureG (dd := some 17) rfl rfl rfl tG (op_fld_ptr (by decide) rfl (Opd.tmp _ _ rfl)) ?_
    refine Run.loadG (dd := some 18) rfl rfl rfl tG (op_load1_flat rfl (Opd.topt _ _ _ rfl tO) tH rfl) ?_
    refine Run.pureG (dd := some 19) rfl rfl rfl tG (op_gtr rfl (Opd.topt _ _ _ rfl tO) (Opd.const _)) ?_
    refine Run.pure (dd := some 20) rfl rfl (op_pick_or rfl (Opd.tmp _ _ rfl) (Opd.topt _ _ _ rfl tO)) ?_
    refine Run.pure (dd := some 21) rfl rfl (op_move rfl (Opd.tmp _ _ rfl)) ?_
    refine Run.pureG (dd := some 22) rfl rfl rfl tG (op_fld_ptr (by decide) rfl (Opd.tmp _ _ rfl)) ?_
    refine Run.loadG (dd := some 23) rfl rfl rfl tG (op_load1_flat rfl (Opd.topt _ _ _ rfl tO) tH rfl) ?_
    refine Run.pureG (dd := some 24) rfl rfl rfl tG (op_fld_ptr (by decide) rfl (Opd.tmp _ _ rfl)) ?_
    refine Run.loadG (dd := some 25) rfl rfl rfl tG (op_load1_flat rfl (Opd.topt _ _ _ rfl tO) tH rfl) ?_
    refine Run.pureG (dd := some 26) rfl rfl rfl tG (op_add rfl (Opd.topt _ _ _ rfl tO) (Opd.topt _ _ _ rfl tO) tI) ?_
    refine Run.pureG (dd := some 27) rfl rfl rfl tG (op_gtr rfl (Opd.topt _ _ _ rfl tO) (Opd.const _)) ?_
    refine Run.pure (dd := some 28) rfl rfl (op_pick_or rfl (Opd.tmp _ _ rfl) (Opd.topt _ _ _ rfl tO)) ?_
    refine Run.pure (dd := some 29) rfl rfl (op_move rfl (Opd.tmp _ _ rfl)) ?_
    refine Run.pureG (dd := some 30) rfl rfl rfl tG (op_fld_ptr (by decide) rfl (Opd.tmp _ _ rfl)) ?_
    refine Run.loadG (dd := some 31) rfl rfl rfl tG (op_load1_flat rfl (Opd.topt _ _ _ rfl tO) tH rfl) ?_
    refine Run.pureG (dd := some 32) rfl rfl rfl tG (op_len_fz rfl (by first | exact Opd.topt _ _ _ rfl tO | exact Opd.nil _ _ (Opd.topt _ _ _ rfl tO)) (by first | exact List.length_map _ | rfl)) ?_
    refine Run.pureG (dd := some 33) rfl rfl rfl tG (op_gtr rfl (Opd.topt _ _ _ rfl tO) (Opd.const _)) ?_
    refine Run.pure (dd := some 34) rfl rfl (op_pick_or rfl (Opd.tmp _ _ rfl) (Opd.topt _ _ _ rfl tO)) ?_
    refine Run.pure (dd := some 12) rfl rfl (op_assign rfl (Opd.tmp _ _ rfl)) ?_
    refine Run.nil (FinR.mk ?_)
    refine nK ?_
    refine n_cond _ rfl (fun hb => ?_) (fun hb => ?_)
    · rw [if_pos (by simp at hb; omega)]
      refine nK ?_
      refine s_reg rfl ?_
      refine Run.pure (dd := some 2) rfl rfl (op_assign rfl (Opd.const _)) ?_
      refine Run.nil (FinR.mk ?_)
      refine nK ?_
      (first | exact s_o1 hC rfl tV | exact s_o2 hC rfl tV tV | exact s_o3 hC rfl tV tV tV | exact s_o4 hC rfl tV tV tV tV | exact s_out0 hC rfl | exact s_outO hC rfl rfl rfl)
    · rw [if_neg (by simp at hb; omega)]
      refine nK ?_
      refine s_reg rfl ?_
      refine Run.pure (dd := some 2) rfl rfl (op_assign rfl (Opd.const _)) ?_
      refine Run.nil (FinR.mk ?_)
      refine nK ?_
      (first | exact s_o1 hC rfl tV | exact s_o2 hC rfl tV tV | exact s_o3 hC rfl tV tV tV | exact s_o4 hC rfl tV tV tV tV | exact s_out0 hC rfl | exact s_outO hC rfl rfl rfl)
theorem isnode_c (g : Gr) (x : Int) (hs : szOk g) : Pure Try.prog 101 [.agg (encG g), If .i64 x] (Bf (nodeB g x)) := by
  obtain ⟨h1, h2, h3⟩ := hs
  refine Meets.intro Try.func101 rfl (Nat.le_of_ble_eq_true rfl) fun C hC => ?_
  simp only [List.map, argEnv, Nat.reduceAdd]
  refine nK ?_
  refine s_reg rfl ?_
  refine Run.eff (dd := some 2) rfl rfl (op_box_flat rfl (Opd.tmp _ _ rfl) tC rfl) ?_
  refine Run.pure (dd := some 4) rfl rfl (op_assign rfl (Opd.const _)) ?_
  refine Run.nil (FinR.mk ?_)
  refine nK ?_
  refine s_reg rfl ?_
  refine Run.pure (dd := some 5) rfl rfl (op_move rfl (Opd.tmp _ _ rfl)) ?_
  refine Run.pure (dd := some 6) rfl rfl (op_geq rfl (Opd.tmp _ _ rfl) (Opd.const _)) ?_
  refine Run.pure (dd := some 7) rfl rfl (op_move rfl (Opd.tmp _ _ rfl)) ?_
  refine Run.pureG (dd := some 8) rfl rfl rfl tG (op_move rfl (Opd.tmp _ _ rfl)) ?_
  refine Run.pureG (dd := some 9) rfl rfl rfl tG (op_fld_ptr (by decide) rfl (Opd.tmp _ _ rfl)) ?_
  refine Run.loadG (dd := some 10) rfl rfl rfl tG (op_load1_flat rfl (Opd.topt _ _ _ rfl tO) tH rfl) ?_
  refine Run.pureG (dd := some 11) rfl rfl rfl tG (op_fld_ptr (by decide) rfl (Opd.tmp _ _ rfl)) ?_
  refine Run.loadG (dd := some 12) rfl rfl rfl tG (op_load1_flat rfl (Opd.topt _ _ _ rfl tO) tH rfl) ?_
  refine Run.pureG (dd := some 13) rfl rfl rfl tG (op_add rfl (Opd.topt _ _ _ rfl tO) (Opd.topt _ _ _ rfl tO) tI) ?_
  refine Run.pureG (dd := some 14) rfl rfl rfl tG (op_lss rfl (Opd.topt _ _ _ rfl tO) (Opd.topt _ _ _ rfl tO)) ?_
  refine Run.pure (dd := some 15) rfl rfl (op_pick_and rfl (Opd.tmp _ _ rfl) (Opd.topt _ _ _ rfl tO)) ?_
  refine Run.pure (dd := some 4) rfl rfl (op_assign rfl (Opd.tmp _ _ rfl)) ?_
  refine Run.nil (FinR.mk ?_)
  refine nK ?_
  (first | exact s_o1 hC rfl tV | exact s_o2 hC rfl tV tV | exact s_o3 hC rfl tV tV tV | exact s_o4 hC rfl tV tV tV tV | exact s_out0 hC rfl | exact s_outO hC rfl rfl rfl)
theorem rnode_c (g : Gr) (x : Int) (hs : szOk g) (hx : inr .i64 x) : Pure Try.prog 63 [.agg (encG g), If .i64 x] (Bf (nodeB g x)) := by
  obtain ⟨h1, h2, h3⟩ := hs
  simp only [inr] at hx
  have e : nodeB g x = (decide (0 ≤ x) && (decide (x < g.r) || decide (x - g.r < g.n))) := by
    unfold nodeB; rw [Bool.eq_iff_iff]; simp; omega
  rw [e]
  refine Meets.intro Try.func63 rfl (Nat.le_of_ble_eq_true rfl) fun C hC => ?_
  simp only [List.map, argEnv, Nat.reduceAdd]
  refine nK ?_
  refine s_reg rfl ?_
  refine Run.eff (dd := some 2) rfl rfl (op_box_flat rfl (Opd.tmp _ _ rfl) tC rfl) ?_
  refine Run.pure (dd := some 4) rfl rfl (op_assign rfl (Opd.const _)) ?_
  refine Run.nil (FinR.mk ?_)
  refine nK ?_
  refine s_reg rfl ?_
  refine Run.pure (dd := some 5) rfl rfl (op_move rfl (Opd.tmp _ _ rfl)) ?_
  refine Run.pure (dd := some 6) rfl rfl (op_geq rfl (Opd.tmp _ _ rfl) (Opd.const _)) ?_
  refine Run.pure (dd := some 7) rfl rfl (op_move rfl (Opd.tmp _ _ rfl)) ?_
  refine Run.pureG (dd := some 8) rfl rfl rfl tG (op_move rfl (Opd.tmp _ _ rfl)) ?_
  refine Run.pureG (dd := some 9) rfl rfl rfl tG (op_fld_ptr (by decide) rfl (Opd.tmp _ _ rfl)) ?_
  refine Run.loadG (dd := some 10) rfl rfl rfl tG (op_load1_flat rfl (Opd.topt _ _ _ rfl tO) tH rfl) ?_
  refine Run.pureG (dd := some 11) rfl rfl rfl tG (op_lss rfl (Opd.topt _ _ _ rfl tO) (Opd.topt _ _ _ rfl tO)) ?_
  refine Run.pureG (dd := some 12) rfl rfl rfl tG (op_move rfl (Opd.topt _ _ _ rfl tO)) ?_
  refine Run.pureG (dd := some 13) rfl rfl rfl tG (op_move rfl (Opd.tmp _ _ rfl)) ?_
  refine Run.pureG (dd := some 14) rfl rfl rfl tG (op_fld_ptr (by decide) rfl (Opd.tmp _ _ rfl)) ?_
  refine Run.loadG (dd := some 15) rfl rfl rfl tG (op_load1_flat rfl (Opd.topt _ _ _ rfl tO) tH rfl) ?_
  refine Run.pureG (dd := some 16) rfl rfl rfl tG (op_sub rfl (Opd.topt _ _ _ rfl tO) (Opd.topt _ _ _ rfl tO) tI) ?_
  refine Run.pureG (dd := some 17) rfl rfl rfl tG (op_fld_ptr (by decide) rfl (Opd.tmp _ _ rfl)) ?_
  refine Run.loadG (dd := some 18) rfl rfl rfl tG (op_load1_flat rfl (Opd.topt _ _ _ rfl tO) tH rfl) ?_
  refine Run.pureG (dd := some 19) rfl rfl rfl tG (op_lss rfl (Opd.topt _ _ _ rfl tO) (Opd.topt _ _ _ rfl tO)) ?_
  refine Run.pureG (dd := some 20) rfl rfl rfl tG (op_pick_or rfl (Opd.topt _ _ _ rfl tO) (Opd.topt _ _ _ rfl tO)) ?_
  refine Run.pure (dd := some 21) rfl rfl (op_pick_and rfl (Opd.tmp _ _ rfl) (Opd.topt _ _ _ rfl tO)) ?_
  refine Run.pure (dd := some 4) rfl rfl (op_assign rfl (Opd.tmp _ _ rfl)) ?_
  refine Run.nil (FinR.mk ?_)
  refine nK ?_
  (first | exact s_o1 hC rfl tV | exact s_o2 hC rfl tV tV | exact s_o3 hC rfl tV tV tV | exact s_o4 hC rfl tV tV tV tV | exact s_out0 hC rfl | exact s_outO hC rfl rfl rfl)
theorem allowed_c (g : Gr) (e : Edg) (hs : szOk g) : Pure Try.prog 81 [.agg (encG g), .agg (encE e)] (If .i64 (alwI g e)) := by
  unfold alwI
  refine Meets.intro Try.func81 rfl (Nat.le_of_ble_eq_true rfl) fun C hC => ?_
  simp only [List.map, argEnv, Nat.reduceAdd]
  refine nK ?_
  refine s_reg rfl ?_
  refine Run.eff (dd := some 2) rfl rfl (op_box_flat rfl (Opd.tmp _ _ rfl) tC rfl) ?_
  refine Run.eff (dd := some 3) rfl rfl (op_box_flat rfl (Opd.tmp _ _ rfl) tC rfl) ?_
  refine Run.pure (dd := some 4) rfl rfl (op_assign rfl (Opd.const _)) ?_
  refine Run.nil (FinR.mk ?_)
  refine nK ?_
  refine s_reg rfl ?_
  refine Run.pure (dd := some 5) rfl rfl (op_assign rfl (Opd.const _)) ?_
  refine Run.pure (dd := some 6) rfl rfl (op_assign rfl (Opd.const _)) ?_
  refine Run.nil (FinR.mk ?_)
  refine nK ?_
  refine s_reg rfl ?_
  refine Run.pure (dd := some 7) rfl rfl (op_fld_ptr (by decide) rfl (Opd.tmp _ _ rfl)) ?_
  refine Run.load (dd := some 8) rfl rfl (op_load1_flat rfl (Opd.tmp _ _ rfl) tH rfl) ?_
  refine Run.pure (dd := some 9) rfl rfl (op_fld_ptr (by decide) rfl (Opd.tmp _ _ rfl)) ?_
  refine Run.load (dd := some 10) rfl rfl (op_load1_flat rfl (Opd.tmp _ _ rfl) tH rfl) ?_
  refine Run.pure (dd := some 11) rfl rfl (op_geq rfl (Opd.tmp _ _ rfl) (Opd.tmp _ _ rfl)) ?_
  refine Run.nil (FinR.mk ?_)
  refine nK ?_
  refine n_cond _ rfl (fun hb => ?_) (fun hb => ?_)
  · have h0 : g.r ≤ e.f := by simpa using hb
    refine nK ?_
    refine s_reg rfl ?_
    refine Run.pure (dd := some 5) rfl rfl (op_assign rfl (Opd.const _)) ?_
    refine Run.pure (dd := some 6) rfl rfl (op_assign rfl (Opd.const _)) ?_
    refine Run.nil (FinR.mk ?_)
    refine nK ?_
    refine s_reg rfl ?_
    refine Run.load (dd := some 13) rfl rfl (op_loadw_flat rfl (Opd.tmp _ _ rfl) tH rfl) ?_
    refine Run.pure (dd := some 14) rfl rfl (op_fld_ptr (by decide) rfl (Opd.tmp _ _ rfl)) ?_
    refine Run.load (dd := some 15) rfl rfl (op_load1_flat rfl (Opd.tmp _ _ rfl) tH rfl) ?_
    refine Run.pure (dd := some 16) rfl rfl (op_call_pure (fun _ => isnode_c _ _ (by assumption)) rfl (Opd.func _) (Opds.cons _ _ _ _ (Opd.tmp _ _ rfl) (Opds.cons _ _ _ _ (Opd.tmp _ _ rfl) Opds.nil))) ?_
    refine Run.pure (dd := some 17) rfl rfl (op_not rfl (Opd.tmp _ _ rfl)) ?_
    refine Run.pure (dd := some 18) rfl rfl (op_move rfl (Opd.tmp _ _ rfl)) ?_
    refine Run.loadG (dd := some 19) rfl rfl rfl tG (op_loadw_flat rfl (Opd.tmp _ _ rfl) tH rfl) ?_
    refine Run.pureG (dd := some 20) rfl rfl rfl tG (op_fld_ptr (by decide) rfl (Opd.tmp _ _ rfl)) ?_
    refine Run.loadG (dd := some 21) rfl rfl rfl tG (op_load1_flat rfl (Opd.topt _ _ _ rfl tO) tH rfl) ?_
    refine Run.pureG (dd := some 22) rfl rfl rfl tG (op_call_pure (fun _ => isnode_c _ _ (by assumption)) rfl (Opd.func _) (Opds.cons _ _ _ _ (Opd.topt _ _ _ rfl tO) (Opds.cons _ _ _ _ (Opd.topt _ _ _ rfl tO) Opds.nil))) ?_
    refine Run.pureG (dd := some 23) rfl rfl rfl tG (op_not rfl (Opd.topt _ _ _ rfl tO)) ?_
    refine Run.pure (dd := some 24) rfl rfl (op_pick_or rfl (Opd.tmp _ _ rfl) (Opd.topt _ _ _ rfl tO)) ?_
    refine Run.pure (dd := some 12) rfl rfl (op_assign rfl (Opd.tmp _ _ rfl)) ?_
    refine Run.nil (FinR.mk ?_)
    refine nK ?_
    refine n_cond _ rfl (fun hb => ?_) (fun hb => ?_)
    · rw [if_pos (by simpa using hb)]
      refine nK ?_
      refine s_reg rfl ?_
      refine Run.pure (dd := some 4) rfl rfl (op_assign rfl (Opd.const _)) ?_
      refine Run.nil (FinR.mk ?_)
      refine nK ?_
      (first | exact s_o1 hC rfl tV | exact s_o2 hC rfl tV tV | exact s_o3 hC rfl tV tV tV | exact s_o4 hC rfl tV tV tV tV | exact s_out0 hC rfl | exact s_outO hC rfl rfl rfl)
    · rw [if_neg (by simpa using hb)]
      refine nK ?_
      refine s_reg rfl ?_
      refine Run.pure (dd := some 26) rfl rfl (op_fld_ptr (by decide) rfl (Opd.tmp _ _ rfl)) ?_
      refine Run.load (dd := some 27) rfl rfl (op_load1_flat rfl (Opd.tmp _ _ rfl) tH rfl) ?_
      refine Run.pure (dd := some 28) rfl rfl (op_fld_ptr (by decide) rfl (Opd.tmp _ _ rfl)) ?_
      refine Run.load (dd := some 29) rfl rfl (op_load1_flat rfl (Opd.tmp _ _ rfl) tH rfl) ?_
      refine Run.pure (dd := some 30) rfl rfl (op_eql rfl (Opd.tmp _ _ rfl) (Opd.tmp _ _ rfl)) ?_
      refine Run.pure (dd := some 31) rfl rfl (op_move rfl (Opd.tmp _ _ rfl)) ?_
      refine Run.pureG (dd := some 32) rfl rfl rfl tG (op_fld_ptr (by decide) rfl (Opd.tmp _ _ rfl)) ?_
      refine Run.loadG (dd := some 33) rfl rfl rfl tG (op_load1_flat rfl (Opd.topt _ _ _ rfl tO) tH rfl) ?_
      refine Run.pureG (dd := some 34) rfl rfl rfl tG (op_fld_ptr (by decide) rfl (Opd.tmp _ _ rfl)) ?_
      refine Run.loadG (dd := some 35) rfl rfl rfl tG (op_load1_flat rfl (Opd.topt _ _ _ rfl tO) tH rfl) ?_
      refine Run.pureG (dd := some 36) rfl rfl rfl tG (op_geq rfl (Opd.topt _ _ _ rfl tO) (Opd.topt _ _ _ rfl tO)) ?_
      refine Run.pureG (dd := some 37) rfl rfl rfl tG (op_move rfl (Opd.topt _ _ _ rfl tO)) ?_
      refine Run.pureG (dd := some 38) rfl rfl rfl tG (op_fld_ptr (by decide) rfl (Opd.tmp _ _ rfl)) ?_
      refine Run.loadG (dd := some 39) rfl rfl rfl tG (op_load1_flat rfl (Opd.topt _ _ _ rfl tO) tH rfl) ?_
      refine Run.pureG (dd := some 40) rfl rfl rfl tG (op_fld_ptr (by decide) rfl (Opd.tmp _ _ rfl)) ?_
      refine Run.loadG (dd := some 41) rfl rfl rfl tG (op_load1_flat rfl (Opd.topt _ _ _ rfl tO) tH rfl) ?_
      refine Run.pureG (dd := some 42) rfl rfl rfl tG (op_geq rfl (Opd.topt _ _ _ rfl tO) (Opd.topt _ _ _ rfl tO)) ?_
      refine Run.pureG (dd := some 43) rfl rfl rfl tG (op_pick_and rfl (Opd.topt _ _ _ rfl tO) (Opd.topt _ _ _ rfl tO)) ?_
      refine Run.pure (dd := some 44) rfl rfl (op_pick_or rfl (Opd.tmp _ _ rfl) (Opd.topt _ _ _ rfl tO)) ?_
      refine Run.pure (dd := some 45) rfl rfl (op_move rfl (Opd.tmp _ _ rfl)) ?_
      refine Run.pureG (dd := some 46) rfl rfl rfl tG (op_fld_ptr (by decide) rfl (Opd.tmp _ _ rfl)) ?_
      refine Run.loadG (dd := some 47) rfl rfl rfl tG (op_load1_flat rfl (Opd.topt _ _ _ rfl tO) tH rfl) ?_
      refine Run.pureG (dd := some 48) rfl rfl rfl tG (op_move rfl (Opd.tmp _ _ rfl)) ?_
      refine Run.pureG (dd := some 49) rfl rfl rfl tG (op_lss rfl (Opd.topt _ _ _ rfl tO) (Opd.topt _ _ _ rfl tO)) ?_
      refine Run.pure (dd := some 50) rfl rfl (op_pick_or rfl (Opd.tmp _ _ rfl) (Opd.topt _ _ _ rfl tO)) ?_
      refine Run.pure (dd := some 51) rfl rfl (op_move rfl (Opd.tmp _ _ rfl)) ?_
      refine Run.pureG (dd := some 52) rfl rfl rfl tG (op_fld_ptr (by decide) rfl (Opd.tmp _ _ rfl)) ?_
      refine Run.loadG (dd := some 53) rfl rfl rfl tG (op_load1_flat rfl (Opd.topt _ _ _ rfl tO) tH rfl) ?_
      refine Run.pureG (dd := some 54) rfl rfl rfl tG (op_move rfl (Opd.tmp _ _ rfl)) ?_
      refine Run.pureG (dd := some 55) rfl rfl rfl tG (op_gtr rfl (Opd.topt _ _ _ rfl tO) (Opd.topt _ _ _ rfl tO)) ?_
      refine Run.pure (dd := some 56) rfl rfl (op_pick_or rfl (Opd.tmp _ _ rfl) (Opd.topt _ _ _ rfl tO)) ?_
      refine Run.pure (dd := some 25) rfl rfl (op_assign rfl (Opd.tmp _ _ rfl)) ?_
      refine Run.nil (FinR.mk ?_)
      refine nK ?_
      refine n_cond _ rfl (fun hb => ?_) (fun hb => ?_)
      · rw [if_pos (by simp at hb; omega)]
        refine nK ?_
        refine s_reg rfl ?_
        refine Run.pure (dd := some 4) rfl rfl (op_assign rfl (Opd.const _)) ?_
        refine Run.nil (FinR.mk ?_)
        refine nK ?_
        (first | exact s_o1 hC rfl tV | exact s_o2 hC rfl tV tV | exact s_o3 hC rfl tV tV tV | exact s_o4 hC rfl tV tV tV tV | exact s_out0 hC rfl | exact s_outO hC rfl rfl rfl)
      · rw [if_neg (by simp at hb; omega)]
        refine nK ?_
        refine s_reg rfl ?_
        refine Run.pure (dd := some 4) rfl rfl (op_assign rfl (Opd.const _)) ?_
        refine Run.nil (FinR.mk ?_)
        refine nK ?_
        (first | exact s_o1 hC rfl tV | exact s_o2 hC rfl tV tV | exact s_o3 hC rfl tV tV tV | exact s_o4 hC rfl tV tV tV tV | exact s_out0 hC rfl | exact s_outO hC rfl rfl rfl)
  · have h0 : ¬ g.r ≤ e.f := by simpa using hb
    refine nK ?_
    refine s_reg rfl ?_
    refine Run.load (dd := some 13) rfl rfl (op_loadw_flat rfl (Opd.tmp _ _ rfl) tH rfl) ?_
    refine Run.pure (dd := some 14) rfl rfl (op_fld_ptr (by decide) rfl (Opd.tmp _ _ rfl)) ?_
    refine Run.load (dd := some 15) rfl rfl (op_load1_flat rfl (Opd.tmp _ _ rfl) tH rfl) ?_
    refine Run.pure (dd := some 16) rfl rfl (op_call_pure (fun _ => isnode_c _ _ (by assumption)) rfl (Opd.func _) (Opds.cons _ _ _ _ (Opd.tmp _ _ rfl) (Opds.cons _ _ _ _ (Opd.tmp _ _ rfl) Opds.nil))) ?_
    refine Run.pure (dd := some 17) rfl rfl (op_not rfl (Opd.tmp _ _ rfl)) ?_
    refine Run.pure (dd := some 18) rfl rfl (op_move rfl (Opd.tmp _ _ rfl)) ?_
    refine Run.loadG (dd := some 19) rfl rfl rfl tG (op_loadw_flat rfl (Opd.tmp _ _ rfl) tH rfl) ?_
    refine Run.pureG (dd := some 20) rfl rfl rfl tG (op_fld_ptr (by decide) rfl (Opd.tmp _ _ rfl)) ?_
    refine Run.loadG (dd := some 21) rfl rfl rfl tG (op_load1_flat rfl (Opd.topt _ _ _ rfl tO) tH rfl) ?_
    refine Run.pureG (dd := some 22) rfl rfl rfl tG (op_call_pure (fun _ => isnode_c _ _ (by assumption)) rfl (Opd.func _) (Opds.cons _ _ _ _ (Opd.topt _ _ _ rfl tO) (Opds.cons _ _ _ _ (Opd.topt _ _ _ rfl tO) Opds.nil))) ?_
    refine Run.pureG (dd := some 23) rfl rfl rfl tG (op_not rfl (Opd.topt _ _ _ rfl tO)) ?_
    refine Run.pure (dd := some 24) rfl rfl (op_pick_or rfl (Opd.tmp _ _ rfl) (Opd.topt _ _ _ rfl tO)) ?_
    refine Run.pure (dd := some 12) rfl rfl (op_assign rfl (Opd.tmp _ _ rfl)) ?_
    refine Run.nil (FinR.mk ?_)
    refine nK ?_
    refine n_cond _ rfl (fun hb => ?_) (fun hb => ?_)
    · rw [if_pos (by simpa using hb)]
      refine nK ?_
      refine s_reg rfl ?_
      refine Run.pure (dd := some 4) rfl rfl (op_assign rfl (Opd.const _)) ?_
      refine Run.nil (FinR.mk ?_)
      refine nK ?_
      (first | exact s_o1 hC rfl tV | exact s_o2 hC rfl tV tV | exact s_o3 hC rfl tV tV tV | exact s_o4 hC rfl tV tV tV tV | exact s_out0 hC rfl | exact s_outO hC rfl rfl rfl)
    · rw [if_neg (by simpa using hb)]
      refine nK ?_
      refine s_reg rfl ?_
      refine Run.pure (dd := some 26) rfl rfl (op_fld_ptr (by decide) rfl (Opd.tmp _ _ rfl)) ?_
      refine Run.load (dd := some 27) rfl rfl (op_load1_flat rfl (Opd.tmp _ _ rfl) tH rfl) ?_
      refine Run.pure (dd := some 28) rfl rfl (op_fld_ptr (by decide) rfl (Opd.tmp _ _ rfl)) ?_
      refine Run.load (dd := some 29) rfl rfl (op_load1_flat rfl (Opd.tmp _ _ rfl) tH rfl) ?_
      refine Run.pure (dd := some 30) rfl rfl (op_eql rfl (Opd.tmp _ _ rfl) (Opd.tmp _ _ rfl)) ?_
      refine Run.pure (dd := some 31) rfl rfl (op_move rfl (Opd.tmp _ _ rfl)) ?_
      refine Run.pureG (dd := some 32) rfl rfl rfl tG (op_fld_ptr (by decide) rfl (Opd.tmp _ _ rfl)) ?_
      refine Run.loadG (dd := some 33) rfl rfl rfl tG (op_load1_flat rfl (Opd.topt _ _ _ rfl tO) tH rfl) ?_
      refine Run.pureG (dd := some 34) rfl rfl rfl tG (op_fld_ptr (by decide) rfl (Opd.tmp _ _ rfl)) ?_
      refine Run.loadG (dd := some 35) rfl rfl rfl tG (op_load1_flat rfl (Opd.topt _ _ _ rfl tO) tH rfl) ?_
      refine Run.pureG (dd := some 36) rfl rfl rfl tG (op_geq rfl (Opd.topt _ _ _ rfl tO) (Opd.topt _ _ _ rfl tO)) ?_
      refine Run.pureG (dd := some 37) rfl rfl rfl tG (op_move rfl (Opd.topt _ _ _ rfl tO)) ?_
      refine Run.pureG (dd := some 38) rfl rfl rfl tG (op_fld_ptr (by decide) rfl (Opd.tmp _ _ rfl)) ?_
      refine Run.loadG (dd := some 39) rfl rfl rfl tG (op_load1_flat rfl (Opd.topt _ _ _ rfl tO) tH rfl) ?_
      refine Run.pureG (dd := some 40) rfl rfl rfl tG (op_fld_ptr (by decide) rfl (Opd.tmp _ _ rfl)) ?_
      refine Run.loadG (dd := some 41) rfl rfl rfl tG (op_load1_flat rfl (Opd.topt _ _ _ rfl tO) tH rfl) ?_
      refine Run.pureG (dd := some 42) rfl rfl rfl tG (op_geq rfl (Opd.topt _ _ _ rfl tO) (Opd.topt _ _ _ rfl tO)) ?_
      refine Run.pureG (dd := some 43) rfl rfl rfl tG (op_pick_and rfl (Opd.topt _ _ _ rfl tO) (Opd.topt _ _ _ rfl tO)) ?_
      refine Run.pure (dd := some 44) rfl rfl (op_pick_or rfl (Opd.tmp _ _ rfl) (Opd.topt _ _ _ rfl tO)) ?_
      refine Run.pure (dd := some 45) rfl rfl (op_move rfl (Opd.tmp _ _ rfl)) ?_
      refine Run.pureG (dd := some 46) rfl rfl rfl tG (op_fld_ptr (by decide) rfl (Opd.tmp _ _ rfl)) ?_
      refine Run.loadG (dd := some 47) rfl rfl rfl tG (op_load1_flat rfl (Opd.topt _ _ _ rfl tO) tH rfl) ?_
      refine Run.pureG (dd := some 48) rfl rfl rfl tG (op_move rfl (Opd.tmp _ _ rfl)) ?_
      refine Run.pureG (dd := some 49) rfl rfl rfl tG (op_lss rfl (Opd.topt _ _ _ rfl tO) (Opd.topt _ _ _ rfl tO)) ?_
      refine Run.pure (dd := some 50) rfl rfl (op_pick_or rfl (Opd.tmp _ _ rfl) (Opd.topt _ _ _ rfl tO)) ?_
      refine Run.pure (dd := some 51) rfl rfl (op_move rfl (Opd.tmp _ _ rfl)) ?_
      refine Run.pureG (dd := some 52) rfl rfl rfl tG (op_fld_ptr (by decide) rfl (Opd.tmp _ _ rfl)) ?_
      refine Run.loadG (dd := some 53) rfl rfl rfl tG (op_load1_flat rfl (Opd.topt _ _ _ rfl tO) tH rfl) ?_
      refine Run.pureG (dd := some 54) rfl rfl rfl tG (op_move rfl (Opd.tmp _ _ rfl)) ?_
      refine Run.pureG (dd := some 55) rfl rfl rfl tG (op_gtr rfl (Opd.topt _ _ _ rfl tO) (Opd.topt _ _ _ rfl tO)) ?_
      refine Run.pure (dd := some 56) rfl rfl (op_pick_or rfl (Opd.tmp _ _ rfl) (Opd.topt _ _ _ rfl tO)) ?_
      refine Run.pure (dd := some 25) rfl rfl (op_assign rfl (Opd.tmp _ _ rfl)) ?_
      refine Run.nil (FinR.mk ?_)
      refine nK ?_
      refine n_cond _ rfl (fun hb => ?_) (fun hb => ?_)
      · rw [if_pos (by simp at hb; omega)]
        refine nK ?_
        refine s_reg rfl ?_
        refine Run.pure (dd := some 4) rfl rfl (op_assign rfl (Opd.const _)) ?_
        refine Run.nil (FinR.mk ?_)
        refine nK ?_
        (first | exact s_o1 hC rfl tV | exact s_o2 hC rfl tV tV | exact s_o3 hC rfl tV tV tV | exact s_o4 hC rfl tV tV tV tV | exact s_out0 hC rfl | exact s_outO hC rfl rfl rfl)
      · rw [if_neg (by simp at hb; omega)]
        refine nK ?_
        refine s_reg rfl ?_
        refine Run.pure (dd := some 4) rfl rfl (op_assign rfl (Opd.const _)) ?_
        refine Run.nil (FinR.mk ?_)
        refine nK ?_
        (first | exact s_o1 hC rfl tV | exact s_o2 hC rfl tV tV | exact s_o3 hC rfl tV tV tV | exact s_o4 hC rfl tV tV tV tV | exact s_out0 hC rfl | exact s_outO hC rfl rfl rfl)
theorem rallowed_c (g : Gr) (e : Edg) (hs : szOk g) (he : okE e) : Pure Try.prog 36 [.agg (encG g), .agg (encE e)] (If .i64 (alwI g e)) := by
  obtain ⟨h1, h2, h3⟩ := he
  unfold alwI
  refine Meets.intro Try.func36 rfl (Nat.le_of_ble_eq_true rfl) fun C hC => ?_
  simp only [List.map, argEnv, Nat.reduceAdd]
  refine nK ?_
  refine s_reg rfl ?_
  refine Run.eff (dd := some 2) rfl rfl (op_box_flat rfl (Opd.tmp _ _ rfl) tC rfl) ?_
  refine Run.eff (dd := some 3) rfl rfl (op_box_flat rfl (Opd.tmp _ _ rfl) tC rfl) ?_
  refine Run.pure (dd := some 4) rfl rfl (op_assign rfl (Opd.const _)) ?_
  refine Run.nil (FinR.mk ?_)
  refine nK ?_
  refine s_reg rfl ?_
  refine Run.load (dd := some 5) rfl rfl (op_loadw_flat rfl (Opd.tmp _ _ rfl) tH rfl) ?_
  refine Run.pure (dd := some 6) rfl rfl (op_fld_ptr (by decide) rfl (Opd.tmp _ _ rfl)) ?_
  refine Run.load (dd := some 7) rfl rfl (op_load1_flat rfl (Opd.tmp _ _ rfl) tH rfl) ?_
  refine Run.pure (dd := some 8) rfl rfl (op_call_pure (fun _ => rnode_c _ _ (by assumption) (by assumption)) rfl (Opd.func _) (Opds.cons _ _ _ _ (Opd.tmp _ _ rfl) (Opds.cons _ _ _ _ (Opd.tmp _ _ rfl) Opds.nil))) ?_
  refine Run.pure (dd := some 9) rfl rfl (op_not rfl (Opd.tmp _ _ rfl)) ?_
  refine Run.pure (dd := some 10) rfl rfl (op_move rfl (Opd.tmp _ _ rfl)) ?_
  refine Run.loadG (dd := some 11) rfl rfl rfl tG (op_loadw_flat rfl (Opd.tmp _ _ rfl) tH rfl) ?_
  refine Run.pureG (dd := some 12) rfl rfl rfl tG (op_fld_ptr (by decide) rfl (Opd.tmp _ _ rfl)) ?_
  refine Run.loadG (dd := some 13) rfl rfl rfl tG (op_load1_flat rfl (Opd.topt _ _ _ rfl tO) tH rfl) ?_
  refine Run.pureG (dd := some 14) rfl rfl rfl tG (op_call_pure (fun _ => rnode_c _ _ (by assumption) (by assumption)) rfl (Opd.func _) (Opds.cons _ _ _ _ (Opd.topt _ _ _ rfl tO) (Opds.cons _ _ _ _ (Opd.topt _ _ _ rfl tO) Opds.nil))) ?_
  refine Run.pureG (dd := some 15) rfl rfl rfl tG (op_not rfl (Opd.topt _ _ _ rfl tO)) ?_
  refine Run.pure (dd := some 16) rfl rfl (op_pick_or rfl (Opd.tmp _ _ rfl) (Opd.topt _ _ _ rfl tO)) ?_
  refine Run.nil (FinR.mk ?_)
  refine nK ?_
  refine n_cond _ rfl (fun hb => ?_) (fun hb => ?_)
  · rw [if_pos (by simpa using hb)]
    refine nK ?_
    refine s_reg rfl ?_
    refine Run.pure (dd := some 4) rfl rfl (op_assign rfl (Opd.const _)) ?_
    refine Run.nil (FinR.mk ?_)
    refine nK ?_
    (first | exact s_o1 hC rfl tV | exact s_o2 hC rfl tV tV | exact s_o3 hC rfl tV tV tV | exact s_o4 hC rfl tV tV tV tV | exact s_out0 hC rfl | exact s_outO hC rfl rfl rfl)
  · rw [if_neg (by simpa using hb)]
    refine nK ?_
    refine s_reg rfl ?_
    refine Run.pure (dd := some 17) rfl rfl (op_fld_ptr (by decide) rfl (Opd.tmp _ _ rfl)) ?_
    refine Run.load (dd := some 18) rfl rfl (op_load1_flat rfl (Opd.tmp _ _ rfl) tH rfl) ?_
    refine Run.pure (dd := some 19) rfl rfl (op_fld_ptr (by decide) rfl (Opd.tmp _ _ rfl)) ?_
    refine Run.load (dd := some 20) rfl rfl (op_load1_flat rfl (Opd.tmp _ _ rfl) tH rfl) ?_
    refine Run.pure (dd := some 21) rfl rfl (op_eql rfl (Opd.tmp _ _ rfl) (Opd.tmp _ _ rfl)) ?_
    refine Run.pure (dd := some 22) rfl rfl (op_move rfl (Opd.tmp _ _ rfl)) ?_
    refine Run.pureG (dd := some 23) rfl rfl rfl tG (op_fld_ptr (by decide) rfl (Opd.tmp _ _ rfl)) ?_
    refine Run.loadG (dd := some 24) rfl rfl rfl tG (op_load1_flat rfl (Opd.topt _ _ _ rfl tO) tH rfl) ?_
    refine Run.pureG (dd := some 25) rfl rfl rfl tG (op_fld_ptr (by decide) rfl (Opd.tmp _ _ rfl)) ?_
    refine Run.loadG (dd := some 26) rfl rfl rfl tG (op_load1_flat rfl (Opd.topt _ _ _ rfl tO) tH rfl) ?_
    refine Run.pureG (dd := some 27) rfl rfl rfl tG (op_geq rfl (Opd.topt _ _ _ rfl tO) (Opd.topt _ _ _ rfl tO)) ?_
    refine Run.pureG (dd := some 28) rfl rfl rfl tG (op_move rfl (Opd.topt _ _ _ rfl tO)) ?_
    refine Run.pureG (dd := some 29) rfl rfl rfl tG (op_fld_ptr (by decide) rfl (Opd.tmp _ _ rfl)) ?_
    refine Run.loadG (dd := some 30) rfl rfl rfl tG (op_load1_flat rfl (Opd.topt _ _ _ rfl tO) tH rfl) ?_
    refine Run.pureG (dd := some 31) rfl rfl rfl tG (op_fld_ptr (by decide) rfl (Opd.tmp _ _ rfl)) ?_
    refine Run.loadG (dd := some 32) rfl rfl rfl tG (op_load1_flat rfl (Opd.topt _ _ _ rfl tO) tH rfl) ?_
    refine Run.pureG (dd := some 33) rfl rfl rfl tG (op_geq rfl (Opd.topt _ _ _ rfl tO) (Opd.topt _ _ _ rfl tO)) ?_
    refine Run.pureG (dd := some 34) rfl rfl rfl tG (op_pick_and rfl (Opd.topt _ _ _ rfl tO) (Opd.topt _ _ _ rfl tO)) ?_
    refine Run.pure (dd := some 35) rfl rfl (op_pick_or rfl (Opd.tmp _ _ rfl) (Opd.topt _ _ _ rfl tO)) ?_
    refine Run.nil (FinR.mk ?_)
    refine nK ?_
    refine n_cond _ rfl (fun hb => ?_) (fun hb => ?_)
    · rw [if_pos (by simp at hb; omega)]
      refine nK ?_
      refine s_reg rfl ?_
      refine Run.pure (dd := some 4) rfl rfl (op_assign rfl (Opd.const _)) ?_
      refine Run.nil (FinR.mk ?_)
      refine nK ?_
      (first | exact s_o1 hC rfl tV | exact s_o2 hC rfl tV tV | exact s_o3 hC rfl tV tV tV | exact s_o4 hC rfl tV tV tV tV | exact s_out0 hC rfl | exact s_outO hC rfl rfl rfl)
    · have h4 := hb
      refine nK ?_
      refine s_reg rfl ?_
      refine Run.pure (dd := some 36) rfl rfl (op_fld_ptr (by decide) rfl (Opd.tmp _ _ rfl)) ?_
      refine Run.load (dd := some 37) rfl rfl (op_load1_flat rfl (Opd.tmp _ _ rfl) tH rfl) ?_
      refine Run.pure (dd := some 38) rfl rfl (op_fld_ptr (by decide) rfl (Opd.tmp _ _ rfl)) ?_
      refine Run.load (dd := some 39) rfl rfl (op_load1_flat rfl (Opd.tmp _ _ rfl) tH rfl) ?_
      refine Run.pure (dd := some 40) rfl rfl (op_geq rfl (Opd.tmp _ _ rfl) (Opd.tmp _ _ rfl)) ?_
      refine Run.pure (dd := some 41) rfl rfl (op_move rfl (Opd.tmp _ _ rfl)) ?_
      refine Run.pureG (dd := some 42) rfl rfl rfl tG (op_fld_ptr (by decide) rfl (Opd.tmp _ _ rfl)) ?_
      refine Run.loadG (dd := some 43) rfl rfl rfl tG (op_load1_flat rfl (Opd.topt _ _ _ rfl tO) tH rfl) ?_
      refine Run.pureG (dd := some 44) rfl rfl rfl tG (op_neq rfl (Opd.topt _ _ _ rfl tO) (Opd.const _)) ?_
      refine Run.pure (dd := some 45) rfl rfl (op_pick_and rfl (Opd.tmp _ _ rfl) (Opd.topt _ _ _ rfl tO)) ?_
      refine Run.pure (dd := some 46) rfl rfl (op_move rfl (Opd.tmp _ _ rfl)) ?_
      refine Run.pureG (dd := some 47) rfl rfl rfl tG (op_fld_ptr (by decide) rfl (Opd.tmp _ _ rfl)) ?_
      refine Run.loadG (dd := some 48) rfl rfl rfl tG (op_load1_flat rfl (Opd.topt _ _ _ rfl tO) tH rfl) ?_
      refine Run.pureG (dd := some 49) rfl rfl rfl tG (op_fld_ptr (by decide) rfl (Opd.tmp _ _ rfl)) ?_
      refine Run.loadG (dd := some 50) rfl rfl rfl tG (op_load1_flat rfl (Opd.topt _ _ _ rfl tO) tH rfl) ?_
      refine Run.pureG (dd := some 51) rfl rfl rfl tG (op_lss rfl (Opd.topt _ _ _ rfl tO) (Opd.topt _ _ _ rfl tO)) ?_
      refine Run.pureG (dd := some 52) rfl rfl rfl tG (op_move rfl (Opd.topt _ _ _ rfl tO)) ?_
      refine Run.pureG (dd := some 53) rfl rfl rfl tG (op_fld_ptr (by decide) rfl (Opd.tmp _ _ rfl)) ?_
      refine Run.loadG (dd := some 54) rfl rfl rfl tG (op_load1_flat rfl (Opd.topt _ _ _ rfl tO) tH rfl) ?_
      refine Run.pureG (dd := some 55) rfl rfl rfl tG (op_lss rfl (Opd.topt _ _ _ rfl tO) (Opd.const _)) ?_
      refine Run.pureG (dd := some 56) rfl rfl rfl tG (op_move rfl (Opd.topt _ _ _ rfl tO)) ?_
      refine Run.pureG (dd := some 57) rfl rfl rfl tG (op_fld_ptr (by decide) rfl (Opd.tmp _ _ rfl)) ?_
      refine Run.loadG (dd := some 58) rfl rfl rfl tG (op_load1_flat rfl (Opd.topt _ _ _ rfl tO) tH rfl) ?_
      refine Run.pureG (dd := some 59) rfl rfl rfl tG (op_gtr rfl (Opd.topt _ _ _ rfl tO) (Opd.const _)) ?_
      refine Run.pureG (dd := some 60) rfl rfl rfl tG (op_pick_or rfl (Opd.topt _ _ _ rfl tO) (Opd.topt _ _ _ rfl tO)) ?_
      refine Run.pureG (dd := some 61) rfl rfl rfl tG (op_pick_and rfl (Opd.topt _ _ _ rfl tO) (Opd.topt _ _ _ rfl tO)) ?_
      refine Run.pure (dd := some 62) rfl rfl (op_pick_or rfl (Opd.tmp _ _ rfl) (Opd.topt _ _ _ rfl tO)) ?_
      refine Run.nil (FinR.mk ?_)
      refine nK ?_
      refine n_cond _ rfl (fun hb => ?_) (fun hb => ?_)
      · rw [if_pos (by simp at hb h4; omega)]
        refine nK ?_
        refine s_reg rfl ?_
        refine Run.pure (dd := some 4) rfl rfl (op_assign rfl (Opd.const _)) ?_
        refine Run.nil (FinR.mk ?_)
        refine nK ?_
        (first | exact s_o1 hC rfl tV | exact s_o2 hC rfl tV tV | exact s_o3 hC rfl tV tV tV | exact s_o4 hC rfl tV tV tV tV | exact s_out0 hC rfl | exact s_outO hC rfl rfl rfl)
      · rw [if_neg (by simp at hb h4; omega)]
        refine nK ?_
        refine s_reg rfl ?_
        refine Run.pure (dd := some 4) rfl rfl (op_assign rfl (Opd.const _)) ?_
        refine Run.nil (FinR.mk ?_)
        refine nK ?_
        (first | exact s_o1 hC rfl tV | exact s_o2 hC rfl tV tV | exact s_o3 hC rfl tV tV tV | exact s_o4 hC rfl tV tV tV tV | exact s_out0 hC rfl | exact s_outO hC rfl rfl rfl)
end Go.Proofs.Ytdhkioocjgpocaa
/- Lists of edges and numbers: what the reference's loops compute. -/
namespace Go.Pl
open Go.RT
set_option linter.all false
def isB (f t : Int) (e : Edg) : Bool := decide (e.f = f) && decide (e.t = t)
def fndAt (f t : Int) : Nat → List Edg → Int
  | _, [] => -1
  | k, e :: l => if isB f t e = true then (k : Int) else fndAt f t (k + 1) l
abbrev fndI (l : List Edg) (f t : Int) : Int := fndAt f t 0 l
def costL (f t : Int) : List Edg → Int × Bool
  | [] => (0, false)
  | e :: l => if isB f t e = true then (e.c, true) else costL f t l
def putR (e : Edg) : Bool → List Edg → List Edg
  | d, [] => if d then [] else [e]
  | d, x :: l => (if !d && befB e x then [e] else []) ++ (x :: putR e (d || (!d && befB e x)) l)
theorem putR_len (e : Edg) : ∀ (l : List Edg) (d : Bool), (putR e d l).length = l.length + if d then 0 else 1
  | [], d => by cases d <;> simp [putR]
  | x :: l, d => by
    simp only [putR, List.length_append, List.length_cons, putR_len e l]
    cases d <;> by_cases hx : befB e x <;> simp [hx] <;> omega
theorem fndAt_rng (f t : Int) : ∀ (l : List Edg) (k : Nat), fndAt f t k l = -1 ∨ ∃ j : Nat, j < l.length ∧ fndAt f t k l = ((k + j : Nat) : Int)
  | [], k => .inl rfl
  | e :: l, k => by
    simp only [fndAt]
    split
    · exact .inr ⟨0, by simp, rfl⟩
    · rcases fndAt_rng f t l (k + 1) with h | ⟨j, h1, h2⟩
      · exact .inl h
      · exact .inr ⟨j + 1, by simp; omega, by rw [h2]; omega⟩
theorem cost_fnd (f t : Int) : ∀ (l : List Edg) (k : Nat), (fndAt f t k l = -1 ∧ costL f t l = (0, false)) ∨ ∃ j : Nat, ∃ h : j < l.length, fndAt f t k l = ((k + j : Nat) : Int) ∧ costL f t l = (l[j].c, true)
  | [], k => .inl ⟨rfl, rfl⟩
  | e :: l, k => by
    simp only [fndAt, costL]
    split
    · exact .inr ⟨0, by simp, rfl, rfl⟩
    · rcases cost_fnd f t l (k + 1) with h | ⟨j, h1, h2, h3⟩
      · exact .inl h
      · exact .inr ⟨j + 1, by simp; omega, by rw [h2]; omega, by simpa using h3⟩
end Go.Pl
namespace Go.Proofs.Ytdhkioocjgpocaa
open Go Go.RT Go.Proofs Go.Pl
set_option linter.all false
set_option maxRecDepth 20000
abbrev OG (g : Gr) : Option Ob := some (.flat 3 [encG g])
theorem prev_row {l : List Edg} {i : Nat} (h0 : 0 < i) (h : i ≤ l.length) : ∃ q, prevO l i = some q ∧ (l.map encE)[i - 1]? = some (encE q) := by
  have h1 : i - 1 < l.length := by omega
  exact ⟨l[i - 1], by simp [prevO, h1]; omega, row_at' encE l (i - 1) h1⟩
theorem check_c (g : Gr) (hg : okG g) : Pure Try.prog 61 [.agg (encG g)] (If .i64 (checkI g)) := by
  unfold checkI
  refine Meets.intro Try.func61 rfl (Nat.le_of_ble_eq_true rfl) fun C hC => ?_
  simp only [List.map, argEnv, Nat.reduceAdd]
  refine nK ?_
  refine s_reg rfl ?_
  refine Run.eff (dd := some 1) rfl rfl (op_box_flat rfl (Opd.tmp _ _ rfl) tC rfl) ?_
  refine Run.pure (dd := some 2) rfl rfl (op_assign rfl (Opd.const _)) ?_
  refine Run.nil (FinR.mk ?_)
  refine nK ?_
  refine s_reg rfl ?_
  refine Run.load (dd := some 7) rfl rfl (op_loadw_flat rfl (Opd.tmp _ _ rfl) tH rfl) ?_
  refine Run.pure (dd := some 8) rfl rfl (op_call_pure (fun _ => size_c _ (by assumption)) rfl (Opd.func _) (Opds.cons _ _ _ _ (Opd.tmp _ _ rfl) Opds.nil)) ?_
  refine Run.pure (dd := some 3) rfl rfl (op_assign rfl (Opd.tmp _ _ rfl)) ?_
  refine Run.nil (FinR.mk ?_)
  refine nK ?_
  refine s_reg rfl ?_
  refine Run.pure (dd := some 9) rfl rfl (op_move rfl (Opd.tmp _ _ rfl)) ?_
  refine Run.pure (dd := some 10) rfl rfl (op_neq rfl (Opd.tmp _ _ rfl) (Opd.const _)) ?_
  refine Run.nil (FinR.mk ?_)
  refine nK ?_
  refine n_cond _ rfl (fun hb => ?_) (fun hb => ?_)
  · rw [if_pos (by simpa using hb)]
    refine nK ?_
    refine s_reg rfl ?_
    refine Run.pure (dd := some 11) rfl rfl (op_move rfl (Opd.tmp _ _ rfl)) ?_
    refine Run.pure (dd := some 2) rfl rfl (op_assign rfl (Opd.tmp _ _ rfl)) ?_
    refine Run.nil (FinR.mk ?_)
    refine nK ?_
    (first | exact s_o1 hC rfl tV | exact s_o2 hC rfl tV tV | exact s_o3 hC rfl tV tV tV | exact s_o4 hC rfl tV tV tV tV | exact s_out0 hC rfl | exact s_outO hC rfl rfl rfl)
  · have hz : sizeI g = 0 := by simpa using hb
    rw [if_neg (by simp [hz])]
    obtain ⟨hs, hlen⟩ := sizeI_ok hz
    refine nK ?_
    refine s_reg rfl ?_
    refine Run.pure (dd := some 12) rfl rfl (op_fld_ptr (by decide) rfl (Opd.tmp _ _ rfl)) ?_
    refine Run.load (dd := some 13) rfl rfl (op_load1_flat rfl (Opd.tmp _ _ rfl) tH rfl) ?_
    refine Run.pure (dd := some 14) rfl rfl (op_len_fz rfl (by first | exact Opd.tmp _ _ rfl | exact Opd.nil _ _ (Opd.tmp _ _ rfl)) (by first | exact List.length_map _ | rfl)) ?_
    refine Run.pure (dd := some 15) rfl rfl (op_move rfl (Opd.const _)) ?_
    refine Run.nil (FinR.mk ?_)
    refine nK ?_
    refine n_loop (ι := Nat) (fun i => ([(1, .ptr 0 3 0 0), (13, .fz (VE g.es)), (14, IV .i64 g.es.length), (15, IV .i64 i)], [(0, OG g)], 1)) (fun i => i ≤ g.es.length ∧ chkL g (prevO g.es i) (g.es.drop i) = chkL g none g.es) (fun i => g.es.length - i) 0 ⟨Nat.zero_le _, rfl⟩ ?_ ?_
    · refine Next.weakS [1] [] (by rfl) (by first | exact keeps0 hC _ | exact keepsN hC _ rfl) (by repeat (first | exact trivial | refine ⟨⟨_, rfl, .inl ⟨rfl, rfl⟩⟩, ?_⟩ | refine ⟨⟨_, rfl, .inl ⟨slEq rfl tN, rfl⟩⟩, ?_⟩ | refine ⟨⟨_, rfl, .inl ⟨ivEq tX, rfl⟩⟩, ?_⟩)) (by repeat (first | exact trivial | refine ⟨ent_same rfl rfl rfl tL, ?_⟩ | refine ⟨ent_same rfl rfl (rfEq rfl tU) tL, ?_⟩ | refine ⟨ent_same rfl rfl (flEq rfl (by first | (simp; done) | (simp; omega) | (simp [encE]; done) | simp [maxC, minC])) trivial, ?_⟩)) rfl (rel_intro)
    · intro i ⟨hi, ho⟩ K hK
      refine nK ?_
      refine s_reg rfl ?_
      refine Run.pure (dd := some 16) rfl rfl (op_lss rfl (Opd.tmp _ _ rfl) (Opd.tmp _ _ rfl)) ?_
      refine Run.nil (FinR.mk ?_)
      refine nK ?_
      refine n_cond _ rfl (fun hb => ?_) (fun hb => ?_)
      · have hlt : i < g.es.length := by simp at hb; omega
        have hr1 := row_at' encE g.es i hlt
        rw [chk_step hlt] at ho
        have hK1 := fun h => hK (i + 1) ⟨by omega, h⟩ (by omega)
        refine nK ?_
        refine s_reg rfl ?_
        refine Run.pure (dd := some 17) rfl rfl (op_move rfl (Opd.tmp _ _ rfl)) ?_
        refine Run.pure (dd := some 18) rfl rfl (op_idx_fz _ rfl (Opd.tmp _ _ rfl) (Opd.tmp _ _ rfl) tF) ?_
        refine Run.pure (dd := some 19) rfl rfl (op_loadw_fz rfl (Opd.tmp _ _ rfl) rfl) ?_
        refine Run.eff (dd := some 5) rfl rfl (op_alloc rfl rfl rfl rfl) ?_
        refine Run.pure (dd := some 4) rfl rfl (op_assign rfl (Opd.tmp _ _ rfl)) ?_
        refine Run.eff (dd := none) rfl rfl (op_store_flat rfl (Opd.tmp _ _ rfl) (Opd.tmp _ _ rfl) tC rfl rfl (by first | rfl | assumption) tS) ?_
        refine Run.nil (FinR.mk ?_)
        refine nK ?_
        refine s_reg rfl ?_
        refine Run.load (dd := some 20) rfl rfl (op_loadw_flat rfl (Opd.tmp _ _ rfl) tH rfl) ?_
        refine Run.load (dd := some 21) rfl rfl (op_loadw_flat rfl (Opd.tmp _ _ rfl) tH rfl) ?_
        refine Run.pure (dd := some 22) rfl rfl (op_call_pure (fun _ => allowed_c _ _ (by assumption)) rfl (Opd.func _) (Opds.cons _ _ _ _ (Opd.tmp _ _ rfl) (Opds.cons _ _ _ _ (Opd.tmp _ _ rfl) Opds.nil))) ?_
        refine Run.pure (dd := some 6) rfl rfl (op_assign rfl (Opd.tmp _ _ rfl)) ?_
        refine Run.nil (FinR.mk ?_)
        refine nK ?_
        refine s_reg rfl ?_
        refine Run.pure (dd := some 23) rfl rfl (op_move rfl (Opd.tmp _ _ rfl)) ?_
        refine Run.pure (dd := some 24) rfl rfl (op_neq rfl (Opd.tmp _ _ rfl) (Opd.const _)) ?_
        refine Run.nil (FinR.mk ?_)
        refine nK ?_
        refine n_cond _ rfl (fun hb => ?_) (fun hb => ?_)
        · have ha : alwI g g.es[i] ≠ 0 := by simpa using hb
          rw [if_pos ha] at ho
          rw [← ho]
          refine nK ?_
          refine s_reg rfl ?_
          refine Run.pure (dd := some 25) rfl rfl (op_move rfl (Opd.tmp _ _ rfl)) ?_
          refine Run.pure (dd := some 2) rfl rfl (op_assign rfl (Opd.tmp _ _ rfl)) ?_
          refine Run.nil (FinR.mk ?_)
          refine nK ?_
          (first | exact s_o1 hC rfl tV | exact s_o2 hC rfl tV tV | exact s_o3 hC rfl tV tV tV | exact s_o4 hC rfl tV tV tV tV | exact s_out0 hC rfl | exact s_outO hC rfl rfl rfl)
        · have ha : ¬ alwI g g.es[i] ≠ 0 := by simpa using hb
          rw [if_neg ha] at ho
          have hp : ∃ q, (0 < i → prevO g.es i = some q ∧ (g.es.map encE)[i - 1]? = some (encE q)) := by
            by_cases h0 : 0 < i
            · obtain ⟨q, h1, h2⟩ := prev_row h0 hi
              exact ⟨q, fun _ => ⟨h1, h2⟩⟩
            · exact ⟨⟨0, 0, 0⟩, fun h => absurd h h0⟩
          obtain ⟨q, hq⟩ := hp
          refine nK ?_
          refine s_draw mixed ?_
          refine Run.pure (dd := some 26) rfl rfl (op_move rfl (Opd.tmp _ _ rfl)) ?_
          refine Run.pure (dd := some 27) rfl rfl (op_gtr rfl (Opd.tmp _ _ rfl) (Opd.const _)) ?_
          refine Run.pure (dd := some 28) rfl rfl (op_move rfl (Opd.tmp _ _ rfl)) ?_
          refine Run.pureG (dd := some 29) rfl rfl rfl tG (op_fld_ptr (by decide) rfl (Opd.tmp _ _ rfl)) ?_
          refine Run.loadG (dd := some 30) rfl rfl rfl tG (op_load1_flat rfl (Opd.topt _ _ _ rfl tO) tH rfl) ?_
          refine Run.pureG (dd := some 31) rfl rfl rfl tG (op_move rfl (Opd.tmp _ _ rfl)) ?_
          refine Run.pureG (dd := some 32) rfl rfl rfl tG (op_sub rfl (Opd.topt _ _ _ rfl tO) (Opd.const _) tI) ?_
          refine Run.pureG (dd := some 33) rfl rfl rfl tG (op_idx_fz (i - 1) rfl (Opd.topt _ _ _ rfl tO) (Opd.topt _ _ _ rfl tO) (by intro hg; have h0 : 0 < i := (by simp at hg; omega); exact ⟨by omega, (hq h0).2⟩)) ?_
          refine Run.pureG (dd := some 34) rfl rfl rfl tG (op_loadw_fz rfl (Opd.topt _ _ _ rfl tO) rfl) ?_
          refine Run.loadG (dd := some 35) rfl rfl rfl tG (op_loadw_flat rfl (Opd.tmp _ _ rfl) tH rfl) ?_
          refine Run.pureG (dd := some 36) rfl rfl rfl tG (op_call_pure (fun _ => order_c _ _) rfl (Opd.func _) (Opds.cons _ _ _ _ (Opd.topt _ _ _ rfl tO) (Opds.cons _ _ _ _ (Opd.topt _ _ _ rfl tO) Opds.nil))) ?_
          refine Run.pureG (dd := some 37) rfl rfl rfl tG (op_geq rfl (Opd.topt _ _ _ rfl tO) (Opd.const _)) ?_
          refine Run.pure (dd := some 38) rfl rfl (op_pick_and rfl (Opd.tmp _ _ rfl) (Opd.topt _ _ _ rfl tO)) ?_
          refine Run.nil (FinD.mk (by kernel_rfl) ?_)
          refine nK ?_
          refine n_cond _ rfl (fun hb => ?_) (fun hb => ?_)
          · have h0 : 0 < i := by simp at hb; omega
            rw [(hq h0).1, if_pos (by rw [ordE_ge] at hb; simp at hb; simpa [badP] using hb.2)] at ho
            rw [← ho]
            refine nK ?_
            refine s_reg rfl ?_
            refine Run.pure (dd := some 2) rfl rfl (op_assign rfl (Opd.const _)) ?_
            refine Run.nil (FinR.mk ?_)
            refine nK ?_
            (first | exact s_o1 hC rfl tV | exact s_o2 hC rfl tV tV | exact s_o3 hC rfl tV tV tV | exact s_o4 hC rfl tV tV tV tV | exact s_out0 hC rfl | exact s_outO hC rfl rfl rfl)
          · have hc : ¬ badP (prevO g.es i) g.es[i] = true := by
              by_cases h0 : 0 < i
              · rw [(hq h0).1]; rw [ordE_ge] at hb; simp [h0, badP] at hb ⊢; exact hb
              · have : i = 0 := by omega
                subst this; simp [prevO, badP]
            rw [if_neg hc] at ho
            refine nK ?_
            refine s_reg rfl ?_
            refine Run.pure (dd := some 39) rfl rfl (op_add rfl (Opd.tmp _ _ rfl) (Opd.const _) tI) ?_
            refine Run.pure (dd := some 15) rfl rfl (op_move rfl (Opd.tmp _ _ rfl)) ?_
            refine Run.nil (FinR.mk ?_)
            refine nK ?_
            refine Next.weakS [1] [] (by rfl) (by first | exact keeps0 hC _ | exact keepsN hC _ rfl) (by repeat (first | exact trivial | refine ⟨⟨_, rfl, .inl ⟨rfl, rfl⟩⟩, ?_⟩ | refine ⟨⟨_, rfl, .inl ⟨slEq rfl tN, rfl⟩⟩, ?_⟩ | refine ⟨⟨_, rfl, .inl ⟨ivEq tX, rfl⟩⟩, ?_⟩)) (by repeat (first | exact trivial | refine ⟨ent_same rfl rfl rfl tL, ?_⟩ | refine ⟨ent_same rfl rfl (rfEq rfl tU) tL, ?_⟩ | refine ⟨ent_same rfl rfl (flEq rfl (by first | (simp; done) | (simp; omega) | (simp [encE]; done) | simp [maxC, minC])) trivial, ?_⟩)) rfl ((hK1 ho))
      · have hie : i = g.es.length := by simp at hb; omega
        rw [hie, List.drop_length] at ho
        rw [← ho]
        simp only [chkL]
        refine nK ?_
        refine s_reg rfl ?_
        refine Run.pure (dd := some 2) rfl rfl (op_assign rfl (Opd.const _)) ?_
        refine Run.nil (FinR.mk ?_)
        refine nK ?_
        (first | exact s_o1 hC rfl tV | exact s_o2 hC rfl tV tV | exact s_o3 hC rfl tV tV tV | exact s_o4 hC rfl tV tV tV tV | exact s_out0 hC rfl | exact s_outO hC rfl rfl rfl)
theorem rsize_c (g : Gr) (hg : okG g) : Pure Try.prog 35 [.agg (encG g)] (If .i64 (if g.r < 0 ∨ g.n < 0 then 5 else if g.r > 128 ∨ g.n > 128 - g.r then 4 else 0)) := by
  obtain ⟨g1, g2, g3⟩ := hg
  simp only [inr] at g1 g2
  refine Meets.intro Try.func35 rfl (Nat.le_of_ble_eq_true rfl) fun C hC => ?_
  simp only [List.map, argEnv, Nat.reduceAdd]
  refine nK ?_
  refine s_reg rfl ?_
  refine Run.eff (dd := some 1) rfl rfl (op_box_flat rfl (Opd.tmp _ _ rfl) tC rfl) ?_
  refine Run.pure (dd := some 2) rfl rfl (op_assign rfl (Opd.const _)) ?_
  refine Run.nil (FinR.mk ?_)
  refine nK ?_
  refine s_reg rfl ?_
  refine Run.pure (dd := some 3) rfl rfl (op_fld_ptr (by decide) rfl (Opd.tmp _ _ rfl)) ?_
  refine Run.load (dd := some 4) rfl rfl (op_load1_flat rfl (Opd.tmp _ _ rfl) tH rfl) ?_
  refine Run.pure (dd := some 5) rfl rfl (op_lss rfl (Opd.tmp _ _ rfl) (Opd.const _)) ?_
  refine Run.pure (dd := some 6) rfl rfl (op_move rfl (Opd.tmp _ _ rfl)) ?_
  refine Run.pureG (dd := some 7) rfl rfl rfl tG (op_fld_ptr (by decide) rfl (Opd.tmp _ _ rfl)) ?_
  refine Run.loadG (dd := some 8) rfl rfl rfl tG (op_load1_flat rfl (Opd.topt _ _ _ rfl tO) tH rfl) ?_
  refine Run.pureG (dd := some 9) rfl rfl rfl tG (op_lss rfl (Opd.topt _ _ _ rfl tO) (Opd.const _)) ?_
  refine Run.pure (dd := some 10) rfl rfl (op_pick_or rfl (Opd.tmp _ _ rfl) (Opd.topt _ _ _ rfl tO)) ?_
  refine Run.nil (FinR.mk ?_)
  refine nK ?_
  refine n_cond _ rfl (fun hb => ?_) (fun hb => ?_)
  · rw [if_pos (by simpa using hb)]
    refine nK ?_
    refine s_reg rfl ?_
    refine Run.pure (dd := some 2) rfl rfl (op_assign rfl (Opd.const _)) ?_
    refine Run.nil (FinR.mk ?_)
    refine nK ?_
    (first | exact s_o1 hC rfl tV | exact s_o2 hC rfl tV tV | exact s_o3 hC rfl tV tV tV | exact s_o4 hC rfl tV tV tV tV | exact s_out0 hC rfl | exact s_outO hC rfl rfl rfl)
  · rw [if_neg (by simp at hb; omega)]
    have h0 : 0 ≤ g.r ∧ 0 ≤ g.n := by simp at hb; omega
    refine nK ?_
    refine s_reg rfl ?_
    refine Run.pure (dd := some 11) rfl rfl (op_fld_ptr (by decide) rfl (Opd.tmp _ _ rfl)) ?_
    refine Run.load (dd := some 12) rfl rfl (op_load1_flat rfl (Opd.tmp _ _ rfl) tH rfl) ?_
    refine Run.pure (dd := some 13) rfl rfl (op_gtr rfl (Opd.tmp _ _ rfl) (Opd.const _)) ?_
    refine Run.pure (dd := some 14) rfl rfl (op_move rfl (Opd.tmp _ _ rfl)) ?_
    refine Run.pureG (dd := some 15) rfl rfl rfl tG (op_fld_ptr (by decide) rfl (Opd.tmp _ _ rfl)) ?_
    refine Run.loadG (dd := some 16) rfl rfl rfl tG (op_load1_flat rfl (Opd.topt _ _ _ rfl tO) tH rfl) ?_
    refine Run.pureG (dd := some 17) rfl rfl rfl tG (op_fld_ptr (by decide) rfl (Opd.tmp _ _ rfl)) ?_
    refine Run.loadG (dd := some 18) rfl rfl rfl tG (op_load1_flat rfl (Opd.topt _ _ _ rfl tO) tH rfl) ?_
    refine Run.pureG (dd := some 19) rfl rfl rfl tG (op_sub rfl (Opd.const _) (Opd.topt _ _ _ rfl tO) tI) ?_
    refine Run.pureG (dd := some 20) rfl rfl rfl tG (op_gtr rfl (Opd.topt _ _ _ rfl tO) (Opd.topt _ _ _ rfl tO)) ?_
    refine Run.pure (dd := some 21) rfl rfl (op_pick_or rfl (Opd.tmp _ _ rfl) (Opd.topt _ _ _ rfl tO)) ?_
    refine Run.nil (FinR.mk ?_)
    refine nK ?_
    refine n_cond _ rfl (fun hb => ?_) (fun hb => ?_)
    · rw [if_pos (by simp at hb; omega)]
      refine nK ?_
      refine s_reg rfl ?_
      refine Run.pure (dd := some 2) rfl rfl (op_assign rfl (Opd.const _)) ?_
      refine Run.nil (FinR.mk ?_)
      refine nK ?_
      (first | exact s_o1 hC rfl tV | exact s_o2 hC rfl tV tV | exact s_o3 hC rfl tV tV tV | exact s_o4 hC rfl tV tV tV tV | exact s_out0 hC rfl | exact s_outO hC rfl rfl rfl)
    · rw [if_neg (by simp at hb; omega)]
      refine nK ?_
      refine s_reg rfl ?_
      refine Run.pure (dd := some 2) rfl rfl (op_assign rfl (Opd.const _)) ?_
      refine Run.nil (FinR.mk ?_)
      refine nK ?_
      (first | exact s_o1 hC rfl tV | exact s_o2 hC rfl tV tV | exact s_o3 hC rfl tV tV tV | exact s_o4 hC rfl tV tV tV tV | exact s_out0 hC rfl | exact s_outO hC rfl rfl rfl)
theorem rcheck_c (g : Gr) (hg : okG g) : Pure Try.prog 13 [.agg (encG g)] (If .i64 (checkI g)) := by
  obtain ⟨_, _, hes⟩ := id hg
  unfold checkI
  refine Meets.intro Try.func13 rfl (Nat.le_of_ble_eq_true rfl) fun C hC => ?_
  simp only [List.map, argEnv, Nat.reduceAdd]
  refine nK ?_
  refine s_reg rfl ?_
  refine Run.eff (dd := some 1) rfl rfl (op_box_flat rfl (Opd.tmp _ _ rfl) tC rfl) ?_
  refine Run.pure (dd := some 2) rfl rfl (op_assign rfl (Opd.const _)) ?_
  refine Run.nil (FinR.mk ?_)
  refine nK ?_
  refine s_reg rfl ?_
  refine Run.load (dd := some 6) rfl rfl (op_loadw_flat rfl (Opd.tmp _ _ rfl) tH rfl) ?_
  refine Run.pure (dd := some 7) rfl rfl (op_call_pure (fun _ => rsize_c _ (by assumption)) rfl (Opd.func _) (Opds.cons _ _ _ _ (Opd.tmp _ _ rfl) Opds.nil)) ?_
  refine Run.pure (dd := some 3) rfl rfl (op_assign rfl (Opd.tmp _ _ rfl)) ?_
  refine Run.nil (FinR.mk ?_)
  refine nK ?_
  refine s_reg rfl ?_
  refine Run.pure (dd := some 8) rfl rfl (op_move rfl (Opd.tmp _ _ rfl)) ?_
  refine Run.pure (dd := some 9) rfl rfl (op_neq rfl (Opd.tmp _ _ rfl) (Opd.const _)) ?_
  refine Run.nil (FinR.mk ?_)
  refine nK ?_
  refine n_cond _ rfl (fun hb => ?_) (fun hb => ?_)
  · have : sizeI g = (if g.r < 0 ∨ g.n < 0 then 5 else if g.r > 128 ∨ g.n > 128 - g.r then 4 else 0) := by
      unfold sizeI
      by_cases h1 : g.r < 0 ∨ g.n < 0
      · rw [if_pos h1, if_pos h1]
      · rw [if_neg h1, if_neg h1]
        rw [if_neg h1] at hb
        by_cases h2 : g.r > 128 ∨ g.n > 128 - g.r
        · rw [if_pos h2, if_pos (by omega)]
        · rw [if_neg h2] at hb; cases hb
    rw [← this] at hb ⊢
    rw [if_pos (by simpa using hb)]
    refine nK ?_
    refine s_reg rfl ?_
    refine Run.pure (dd := some 10) rfl rfl (op_move rfl (Opd.tmp _ _ rfl)) ?_
    refine Run.pure (dd := some 2) rfl rfl (op_assign rfl (Opd.tmp _ _ rfl)) ?_
    refine Run.nil (FinR.mk ?_)
    refine nK ?_
    (first | exact s_o1 hC rfl tV | exact s_o2 hC rfl tV tV | exact s_o3 hC rfl tV tV tV | exact s_o4 hC rfl tV tV tV tV | exact s_out0 hC rfl | exact s_outO hC rfl rfl rfl)
  · have hb0 : (if g.r < 0 ∨ g.n < 0 then (5 : Int) else if g.r > 128 ∨ g.n > 128 - g.r then 4 else 0) = 0 := by simpa using hb
    have h1 : ¬ (g.r < 0 ∨ g.n < 0) := fun h => by rw [if_pos h] at hb0; cases hb0
    rw [if_neg h1] at hb0
    have h2 : ¬ (g.r > 128 ∨ g.n > 128 - g.r) := fun h => by rw [if_pos h] at hb0; cases hb0
    refine nK ?_
    refine s_reg rfl ?_
    refine Run.pure (dd := some 11) rfl rfl (op_fld_ptr (by decide) rfl (Opd.tmp _ _ rfl)) ?_
    refine Run.load (dd := some 12) rfl rfl (op_load1_flat rfl (Opd.tmp _ _ rfl) tH rfl) ?_
    refine Run.pure (dd := some 13) rfl rfl (op_len_fz rfl (by first | exact Opd.tmp _ _ rfl | exact Opd.nil _ _ (Opd.tmp _ _ rfl)) (by first | exact List.length_map _ | rfl)) ?_
    refine Run.pure (dd := some 14) rfl rfl (op_gtr rfl (Opd.tmp _ _ rfl) (Opd.const _)) ?_
    refine Run.nil (FinR.mk ?_)
    refine nK ?_
    refine n_cond _ rfl (fun hb => ?_) (fun hb => ?_)
    · have hz : sizeI g = 4 := by unfold sizeI; rw [if_neg h1, if_pos (by simp at hb; omega)]
      have hcz : sizeI g ≠ 0 := by rw [hz]; decide
      rw [if_pos hcz, hz]
      refine nK ?_
      refine s_reg rfl ?_
      refine Run.pure (dd := some 2) rfl rfl (op_assign rfl (Opd.const _)) ?_
      refine Run.nil (FinR.mk ?_)
      refine nK ?_
      (first | exact s_o1 hC rfl tV | exact s_o2 hC rfl tV tV | exact s_o3 hC rfl tV tV tV | exact s_o4 hC rfl tV tV tV tV | exact s_out0 hC rfl | exact s_outO hC rfl rfl rfl)
    · have hz : sizeI g = 0 := by unfold sizeI; rw [if_neg h1, if_neg (by simp at hb; omega)]
      have hcz : ¬ sizeI g ≠ 0 := by simp [hz]
      rw [if_neg hcz]
      obtain ⟨hs, hlen⟩ := sizeI_ok hz
      refine nK ?_
      refine s_reg rfl ?_
      refine Run.pure (dd := some 4) rfl rfl (op_assign rfl (Opd.const _)) ?_
      refine Run.nil (FinR.mk ?_)
      refine nK ?_
      refine n_loop (ι := Nat) (fun i => ([(1, .ptr 0 3 0 0), (4, IV .i64 i)], [(0, OG g)], 1)) (fun i => i ≤ g.es.length ∧ chkL g (prevO g.es i) (g.es.drop i) = chkL g none g.es) (fun i => g.es.length - i) 0 ⟨Nat.zero_le _, rfl⟩ ?_ ?_
      · refine Next.weakS [1] [] (by rfl) (by first | exact keeps0 hC _ | exact keepsN hC _ rfl) (by repeat (first | exact trivial | refine ⟨⟨_, rfl, .inl ⟨rfl, rfl⟩⟩, ?_⟩ | refine ⟨⟨_, rfl, .inl ⟨slEq rfl tN, rfl⟩⟩, ?_⟩ | refine ⟨⟨_, rfl, .inl ⟨ivEq tX, rfl⟩⟩, ?_⟩)) (by repeat (first | exact trivial | refine ⟨ent_same rfl rfl rfl tL, ?_⟩ | refine ⟨ent_same rfl rfl (rfEq rfl tU) tL, ?_⟩ | refine ⟨ent_same rfl rfl (flEq rfl (by first | (simp; done) | (simp; omega) | (simp [encE]; done) | simp [maxC, minC])) trivial, ?_⟩)) rfl (rel_intro)
      · intro i ⟨hi, ho⟩ K hK
        refine nK ?_
        refine s_reg rfl ?_
        refine Run.pure (dd := some 15) rfl rfl (op_move rfl (Opd.tmp _ _ rfl)) ?_
        refine Run.pure (dd := some 16) rfl rfl (op_fld_ptr (by decide) rfl (Opd.tmp _ _ rfl)) ?_
        refine Run.load (dd := some 17) rfl rfl (op_load1_flat rfl (Opd.tmp _ _ rfl) tH rfl) ?_
        refine Run.pure (dd := some 18) rfl rfl (op_len_fz rfl (by first | exact Opd.tmp _ _ rfl | exact Opd.nil _ _ (Opd.tmp _ _ rfl)) (by first | exact List.length_map _ | rfl)) ?_
        refine Run.pure (dd := some 19) rfl rfl (op_lss rfl (Opd.tmp _ _ rfl) (Opd.tmp _ _ rfl)) ?_
        refine Run.nil (FinR.mk ?_)
        refine nK ?_
        refine n_cond _ rfl (fun hb => ?_) (fun hb => ?_)
        · have hlt : i < g.es.length := by simp at hb; omega
          have hr1 := row_at' encE g.es i hlt
          have hoe := hes g.es[i] (List.getElem_mem hlt)
          rw [chk_step hlt] at ho
          have hK1 := fun h => hK (i + 1) ⟨by omega, h⟩ (by omega)
          refine nK ?_
          refine s_draw mixed ?_
          refine Run.load (dd := some 22) rfl rfl (op_loadw_flat rfl (Opd.tmp _ _ rfl) tH rfl) ?_
          refine Run.pure (dd := some 23) rfl rfl (op_fld_ptr (by decide) rfl (Opd.tmp _ _ rfl)) ?_
          refine Run.load (dd := some 24) rfl rfl (op_load1_flat rfl (Opd.tmp _ _ rfl) tH rfl) ?_
          refine Run.pure (dd := some 25) rfl rfl (op_move rfl (Opd.tmp _ _ rfl)) ?_
          refine Run.pure (dd := some 26) rfl rfl (op_idx_fz _ rfl (Opd.tmp _ _ rfl) (Opd.tmp _ _ rfl) tF) ?_
          refine Run.pure (dd := some 27) rfl rfl (op_loadw_fz rfl (Opd.tmp _ _ rfl) rfl) ?_
          refine Run.pure (dd := some 28) rfl rfl (op_call_pure (fun _ => rallowed_c _ _ (by assumption) (by assumption)) rfl (Opd.func _) (Opds.cons _ _ _ _ (Opd.tmp _ _ rfl) (Opds.cons _ _ _ _ (Opd.tmp _ _ rfl) Opds.nil))) ?_
          refine Run.pure (dd := some 5) rfl rfl (op_assign rfl (Opd.tmp _ _ rfl)) ?_
          refine Run.nil (FinD.mk (by kernel_rfl) ?_)
          refine nK ?_
          refine s_reg rfl ?_
          refine Run.pure (dd := some 29) rfl rfl (op_move rfl (Opd.tmp _ _ rfl)) ?_
          refine Run.pure (dd := some 30) rfl rfl (op_neq rfl (Opd.tmp _ _ rfl) (Opd.const _)) ?_
          refine Run.nil (FinR.mk ?_)
          refine nK ?_
          refine n_cond _ rfl (fun hb => ?_) (fun hb => ?_)
          · have ha : alwI g g.es[i] ≠ 0 := by simpa using hb
            rw [if_pos ha] at ho
            rw [← ho]
            refine nK ?_
            refine s_reg rfl ?_
            refine Run.pure (dd := some 31) rfl rfl (op_move rfl (Opd.tmp _ _ rfl)) ?_
            refine Run.pure (dd := some 2) rfl rfl (op_assign rfl (Opd.tmp _ _ rfl)) ?_
            refine Run.nil (FinR.mk ?_)
            refine nK ?_
            (first | exact s_o1 hC rfl tV | exact s_o2 hC rfl tV tV | exact s_o3 hC rfl tV tV tV | exact s_o4 hC rfl tV tV tV tV | exact s_out0 hC rfl | exact s_outO hC rfl rfl rfl)
          · have ha : ¬ alwI g g.es[i] ≠ 0 := by simpa using hb
            rw [if_neg ha] at ho
            have hp : ∃ q, (0 < i → prevO g.es i = some q ∧ (g.es.map encE)[i - 1]? = some (encE q)) := by
              by_cases h0 : 0 < i
              · obtain ⟨q, h1, h2⟩ := prev_row h0 hi
                exact ⟨q, fun _ => ⟨h1, h2⟩⟩
              · exact ⟨⟨0, 0, 0⟩, fun h => absurd h h0⟩
            obtain ⟨q, hq⟩ := hp
            refine nK ?_
            refine s_draw mixed ?_
            refine Run.pure (dd := some 32) rfl rfl (op_move rfl (Opd.tmp _ _ rfl)) ?_
            refine Run.pure (dd := some 33) rfl rfl (op_gtr rfl (Opd.tmp _ _ rfl) (Opd.const _)) ?_
            refine Run.pure (dd := some 34) rfl rfl (op_move rfl (Opd.tmp _ _ rfl)) ?_
            refine Run.pureG (dd := some 35) rfl rfl rfl tG (op_fld_ptr (by decide) rfl (Opd.tmp _ _ rfl)) ?_
            refine Run.loadG (dd := some 36) rfl rfl rfl tG (op_load1_flat rfl (Opd.topt _ _ _ rfl tO) tH rfl) ?_
            refine Run.pureG (dd := some 37) rfl rfl rfl tG (op_move rfl (Opd.tmp _ _ rfl)) ?_
            refine Run.pureG (dd := some 38) rfl rfl rfl tG (op_sub rfl (Opd.topt _ _ _ rfl tO) (Opd.const _) tI) ?_
            refine Run.pureG (dd := some 39) rfl rfl rfl tG (op_idx_fz (i - 1) rfl (Opd.topt _ _ _ rfl tO) (Opd.topt _ _ _ rfl tO) (by intro hg; have h0 : 0 < i := (by simp at hg; omega); exact ⟨by omega, (hq h0).2⟩)) ?_
            refine Run.pureG (dd := some 40) rfl rfl rfl tG (op_loadw_fz rfl (Opd.topt _ _ _ rfl tO) rfl) ?_
            refine Run.pureG (dd := some 41) rfl rfl rfl tG (op_fld_ptr (by decide) rfl (Opd.tmp _ _ rfl)) ?_
            refine Run.loadG (dd := some 42) rfl rfl rfl tG (op_load1_flat rfl (Opd.topt _ _ _ rfl tO) tH rfl) ?_
            refine Run.pureG (dd := some 43) rfl rfl rfl tG (op_move rfl (Opd.tmp _ _ rfl)) ?_
            refine Run.pureG (dd := some 44) rfl rfl rfl tG (op_idx_fz _ rfl (Opd.topt _ _ _ rfl tO) (Opd.topt _ _ _ rfl tO) tF) ?_
            refine Run.pureG (dd := some 45) rfl rfl rfl tG (op_loadw_fz rfl (Opd.topt _ _ _ rfl tO) rfl) ?_
            refine Run.pureG (dd := some 46) rfl rfl rfl tG (op_call_pure (fun _ => before_c _ _) rfl (Opd.func _) (Opds.cons _ _ _ _ (Opd.topt _ _ _ rfl tO) (Opds.cons _ _ _ _ (Opd.topt _ _ _ rfl tO) Opds.nil))) ?_
            refine Run.pureG (dd := some 47) rfl rfl rfl tG (op_not rfl (Opd.topt _ _ _ rfl tO)) ?_
            refine Run.pure (dd := some 48) rfl rfl (op_pick_and rfl (Opd.tmp _ _ rfl) (Opd.topt _ _ _ rfl tO)) ?_
            refine Run.nil (FinD.mk (by kernel_rfl) ?_)
            refine nK ?_
            refine n_cond _ rfl (fun hb => ?_) (fun hb => ?_)
            · have h0 : 0 < i := by simp at hb; omega
              rw [(hq h0).1, if_pos (by simp at hb; simpa [badP] using hb.2)] at ho
              rw [← ho]
              refine nK ?_
              refine s_reg rfl ?_
              refine Run.pure (dd := some 2) rfl rfl (op_assign rfl (Opd.const _)) ?_
              refine Run.nil (FinR.mk ?_)
              refine nK ?_
              (first | exact s_o1 hC rfl tV | exact s_o2 hC rfl tV tV | exact s_o3 hC rfl tV tV tV | exact s_o4 hC rfl tV tV tV tV | exact s_out0 hC rfl | exact s_outO hC rfl rfl rfl)
            · have hc : ¬ badP (prevO g.es i) g.es[i] = true := by
                by_cases h0 : 0 < i
                · rw [(hq h0).1]; simp [h0, badP] at hb ⊢; exact hb
                · have : i = 0 := by omega
                  subst this; simp [prevO, badP]
              rw [if_neg hc] at ho
              refine nK ?_
              refine s_reg rfl ?_
              refine Run.pure (dd := some 20) rfl rfl (op_move rfl (Opd.tmp _ _ rfl)) ?_
              refine Run.pure (dd := some 21) rfl rfl (op_add rfl (Opd.tmp _ _ rfl) (Opd.const _) tI) ?_
              refine Run.pure (dd := some 4) rfl rfl (op_assign rfl (Opd.tmp _ _ rfl)) ?_
              refine Run.nil (FinR.mk ?_)
              refine nK ?_
              refine Next.weakS [1] [] (by rfl) (by first | exact keeps0 hC _ | exact keepsN hC _ rfl) (by repeat (first | exact trivial | refine ⟨⟨_, rfl, .inl ⟨rfl, rfl⟩⟩, ?_⟩ | refine ⟨⟨_, rfl, .inl ⟨slEq rfl tN, rfl⟩⟩, ?_⟩ | refine ⟨⟨_, rfl, .inl ⟨ivEq tX, rfl⟩⟩, ?_⟩)) (by repeat (first | exact trivial | refine ⟨ent_same rfl rfl rfl tL, ?_⟩ | refine ⟨ent_same rfl rfl (rfEq rfl tU) tL, ?_⟩ | refine ⟨ent_same rfl rfl (flEq rfl (by first | (simp; done) | (simp; omega) | (simp [encE]; done) | simp [maxC, minC])) trivial, ?_⟩)) rfl ((hK1 ho))
        · have hie : i = g.es.length := by simp at hb; omega
          rw [hie, List.drop_length] at ho
          rw [← ho]
          simp only [chkL]
          refine nK ?_
          refine s_reg rfl ?_
          refine Run.pure (dd := some 2) rfl rfl (op_assign rfl (Opd.const _)) ?_
          refine Run.nil (FinR.mk ?_)
          refine nK ?_
          (first | exact s_o1 hC rfl tV | exact s_o2 hC rfl tV tV | exact s_o3 hC rfl tV tV tV | exact s_o4 hC rfl tV tV tV tV | exact s_out0 hC rfl | exact s_outO hC rfl rfl rfl)
open Go Go.RT Go.Proofs Go.Pl
set_option maxRecDepth 20000
abbrev OE (l : List Edg) : Option Ob := some (.flat 3 (l.map encE))
theorem find_c (g : Gr) (f t : Int) (hn : g.es.length ≤ 40000000) : Pure Try.prog 38 [.agg (encG g), If .i64 f, If .i64 t] (If .i64 (fndI g.es f t)) := by
  refine Meets.intro Try.func38 rfl (Nat.le_of_ble_eq_true rfl) fun C hC => ?_
  simp only [List.map, argEnv, Nat.reduceAdd]
  refine nK ?_
  refine s_reg rfl ?_
  refine Run.eff (dd := some 3) rfl rfl (op_box_flat rfl (Opd.tmp _ _ rfl) tC rfl) ?_
  refine Run.pure (dd := some 6) rfl rfl (op_assign rfl (Opd.const _)) ?_
  refine Run.nil (FinR.mk ?_)
  refine nK ?_
  refine s_reg rfl ?_
  refine Run.pure (dd := some 7) rfl rfl (op_assign rfl (Opd.const _)) ?_
  refine Run.nil (FinR.mk ?_)
  refine nK ?_
  refine n_loop (ι := Nat) (fun i => ([(1, IV .i64 f), (2, IV .i64 t), (3, .ptr 0 3 0 0), (7, IV .i64 i)], [(0, OG g)], 1)) (fun i => i ≤ g.es.length ∧ fndAt f t i (g.es.drop i) = fndI g.es f t) (fun i => g.es.length - i) 0 ⟨Nat.zero_le _, rfl⟩ ?_ ?_
  · refine Next.weakS [3] [] (by rfl) (by first | exact keeps0 hC _ | exact keepsN hC _ rfl) (by repeat (first | exact trivial | refine ⟨⟨_, rfl, .inl ⟨rfl, rfl⟩⟩, ?_⟩ | refine ⟨⟨_, rfl, .inl ⟨slEq rfl tN, rfl⟩⟩, ?_⟩ | refine ⟨⟨_, rfl, .inl ⟨ivEq tX, rfl⟩⟩, ?_⟩)) (by repeat (first | exact trivial | refine ⟨ent_same rfl rfl rfl tL, ?_⟩ | refine ⟨ent_same rfl rfl (rfEq rfl tU) tL, ?_⟩ | refine ⟨ent_same rfl rfl (flEq rfl (by first | (simp; done) | (simp; omega) | (simp [encE, encN, encB]; done) | simp [maxC, minC])) trivial, ?_⟩)) rfl (rel_intro)
  · intro i ⟨hi, ho⟩ K hK
    refine nK ?_
    refine s_reg rfl ?_
    refine Run.pure (dd := some 8) rfl rfl (op_move rfl (Opd.tmp _ _ rfl)) ?_
    refine Run.pure (dd := some 9) rfl rfl (op_fld_ptr (by decide) rfl (Opd.tmp _ _ rfl)) ?_
    refine Run.load (dd := some 10) rfl rfl (op_load1_flat rfl (Opd.tmp _ _ rfl) tH rfl) ?_
    refine Run.pure (dd := some 11) rfl rfl (op_len_fz rfl (by first | exact Opd.tmp _ _ rfl | exact Opd.nil _ _ (Opd.tmp _ _ rfl)) (by first | exact List.length_map _ | rfl)) ?_
    refine Run.pure (dd := some 12) rfl rfl (op_lss rfl (Opd.tmp _ _ rfl) (Opd.tmp _ _ rfl)) ?_
    refine Run.nil (FinR.mk ?_)
    refine nK ?_
    refine n_cond _ rfl (fun hb => ?_) (fun hb => ?_)
    · have hlt : i < g.es.length := by simp at hb; omega
      have hr1 := row_at' encE g.es i hlt
      rw [List.drop_eq_getElem_cons hlt] at ho
      simp only [fndAt] at ho
      have hK1 := fun h => hK (i + 1) ⟨by omega, h⟩ (by omega)
      generalize g.es[i] = e at *
      refine nK ?_
      refine s_reg rfl ?_
      refine Run.pure (dd := some 15) rfl rfl (op_fld_ptr (by decide) rfl (Opd.tmp _ _ rfl)) ?_
      refine Run.load (dd := some 16) rfl rfl (op_load1_flat rfl (Opd.tmp _ _ rfl) tH rfl) ?_
      refine Run.pure (dd := some 17) rfl rfl (op_move rfl (Opd.tmp _ _ rfl)) ?_
      refine Run.pure (dd := some 18) rfl rfl (op_idx_fz _ rfl (Opd.tmp _ _ rfl) (Opd.tmp _ _ rfl) tF) ?_
      refine Run.pure (dd := some 19) rfl rfl (op_fld_fz (by decide) rfl (Opd.tmp _ _ rfl) tR) ?_
      refine Run.pure (dd := some 20) rfl rfl (op_load1_fz rfl (Opd.tmp _ _ rfl) rfl) ?_
      refine Run.pure (dd := some 21) rfl rfl (op_move rfl (Opd.tmp _ _ rfl)) ?_
      refine Run.pure (dd := some 22) rfl rfl (op_eql rfl (Opd.tmp _ _ rfl) (Opd.tmp _ _ rfl)) ?_
      refine Run.pure (dd := some 23) rfl rfl (op_move rfl (Opd.tmp _ _ rfl)) ?_
      refine Run.pureG (dd := some 24) rfl rfl rfl tG (op_fld_ptr (by decide) rfl (Opd.tmp _ _ rfl)) ?_
      refine Run.loadG (dd := some 25) rfl rfl rfl tG (op_load1_flat rfl (Opd.topt _ _ _ rfl tO) tH rfl) ?_
      refine Run.pureG (dd := some 26) rfl rfl rfl tG (op_move rfl (Opd.tmp _ _ rfl)) ?_
      refine Run.pureG (dd := some 27) rfl rfl rfl tG (op_idx_fz _ rfl (Opd.topt _ _ _ rfl tO) (Opd.topt _ _ _ rfl tO) tF) ?_
      refine Run.pureG (dd := some 28) rfl rfl rfl tG (op_fld_fz (by decide) rfl (Opd.topt _ _ _ rfl tO) tR) ?_
      refine Run.pureG (dd := some 29) rfl rfl rfl tG (op_load1_fz rfl (Opd.topt _ _ _ rfl tO) rfl) ?_
      refine Run.pureG (dd := some 30) rfl rfl rfl tG (op_move rfl (Opd.tmp _ _ rfl)) ?_
      refine Run.pureG (dd := some 31) rfl rfl rfl tG (op_eql rfl (Opd.topt _ _ _ rfl tO) (Opd.topt _ _ _ rfl tO)) ?_
      refine Run.pure (dd := some 32) rfl rfl (op_pick_and rfl (Opd.tmp _ _ rfl) (Opd.topt _ _ _ rfl tO)) ?_
      refine Run.nil (FinR.mk ?_)
      refine nK ?_
      refine n_cond _ rfl (fun hb => ?_) (fun hb => ?_)
      · rw [if_pos (by simpa [isB] using hb)] at ho
        rw [← ho]
        refine nK ?_
        refine s_reg rfl ?_
        refine Run.pure (dd := some 33) rfl rfl (op_move rfl (Opd.tmp _ _ rfl)) ?_
        refine Run.pure (dd := some 6) rfl rfl (op_assign rfl (Opd.tmp _ _ rfl)) ?_
        refine Run.nil (FinR.mk ?_)
        refine nK ?_
        (first | exact s_o1 hC rfl tV | exact s_o2 hC rfl tV tV | exact s_o3 hC rfl tV tV tV | exact s_o4 hC rfl tV tV tV tV | exact s_out0 hC rfl | exact s_outO hC rfl rfl rfl)
      · rw [if_neg (by simpa [isB] using hb)] at ho
        refine nK ?_
        refine s_reg rfl ?_
        refine Run.pure (dd := some 13) rfl rfl (op_move rfl (Opd.tmp _ _ rfl)) ?_
        refine Run.pure (dd := some 14) rfl rfl (op_add rfl (Opd.tmp _ _ rfl) (Opd.const _) tI) ?_
        refine Run.pure (dd := some 7) rfl rfl (op_assign rfl (Opd.tmp _ _ rfl)) ?_
        refine Run.nil (FinR.mk ?_)
        refine nK ?_
        refine Next.weakS [3] [] (by rfl) (by first | exact keeps0 hC _ | exact keepsN hC _ rfl) (by repeat (first | exact trivial | refine ⟨⟨_, rfl, .inl ⟨rfl, rfl⟩⟩, ?_⟩ | refine ⟨⟨_, rfl, .inl ⟨slEq rfl tN, rfl⟩⟩, ?_⟩ | refine ⟨⟨_, rfl, .inl ⟨ivEq tX, rfl⟩⟩, ?_⟩)) (by repeat (first | exact trivial | refine ⟨ent_same rfl rfl rfl tL, ?_⟩ | refine ⟨ent_same rfl rfl (rfEq rfl tU) tL, ?_⟩ | refine ⟨ent_same rfl rfl (flEq rfl (by first | (simp; done) | (simp; omega) | (simp [encE, encN, encB]; done) | simp [maxC, minC])) trivial, ?_⟩)) rfl ((hK1 ho))
    · have hie : i = g.es.length := by simp at hb; omega
      rw [hie, List.drop_length] at ho
      rw [← ho]
      refine nK ?_
      refine s_reg rfl ?_
      refine Run.pure (dd := some 6) rfl rfl (op_assign rfl (Opd.const _)) ?_
      refine Run.nil (FinR.mk ?_)
      refine nK ?_
      (first | exact s_o1 hC rfl tV | exact s_o2 hC rfl tV tV | exact s_o3 hC rfl tV tV tV | exact s_o4 hC rfl tV tV tV tV | exact s_out0 hC rfl | exact s_outO hC rfl rfl rfl)
theorem rcost_c (g : Gr) (f t : Int) (hn : g.es.length ≤ 40000000) : Pure Try.prog 14 [.agg (encG g), If .i64 f, If .i64 t] (.tup [If .i64 (costL f t g.es).1, Bf (costL f t g.es).2]) := by
  rcases cost_fnd f t g.es 0 with ⟨h1, h2⟩ | ⟨j, hj, h1, h2⟩
  · rw [h2]
    refine Meets.intro Try.func14 rfl (Nat.le_of_ble_eq_true rfl) fun C hC => ?_
    simp only [List.map, argEnv, Nat.reduceAdd]
    refine nK ?_
    refine s_reg rfl ?_
    refine Run.eff (dd := some 3) rfl rfl (op_box_flat rfl (Opd.tmp _ _ rfl) tC rfl) ?_
    refine Run.pure (dd := some 6) rfl rfl (op_assign rfl (Opd.const _)) ?_
    refine Run.pure (dd := some 7) rfl rfl (op_assign rfl (Opd.const _)) ?_
    refine Run.nil (FinR.mk ?_)
    refine nK ?_
    refine s_reg rfl ?_
    refine Run.load (dd := some 9) rfl rfl (op_loadw_flat rfl (Opd.tmp _ _ rfl) tH rfl) ?_
    refine Run.pure (dd := some 10) rfl rfl (op_move rfl (Opd.tmp _ _ rfl)) ?_
    refine Run.pure (dd := some 11) rfl rfl (op_move rfl (Opd.tmp _ _ rfl)) ?_
    refine Run.pure (dd := some 12) rfl rfl (op_call_pure (fun _ => find_c _ _ _ (by omega)) rfl (Opd.func _) (Opds.cons _ _ _ _ (Opd.tmp _ _ rfl) (Opds.cons _ _ _ _ (Opd.tmp _ _ rfl) (Opds.cons _ _ _ _ (Opd.tmp _ _ rfl) Opds.nil)))) ?_
    refine Run.pure (dd := some 8) rfl rfl (op_assign rfl (Opd.tmp _ _ rfl)) ?_
    refine Run.nil (FinR.mk ?_)
    refine nK ?_
    refine s_reg rfl ?_
    refine Run.pure (dd := some 13) rfl rfl (op_move rfl (Opd.tmp _ _ rfl)) ?_
    refine Run.pure (dd := some 14) rfl rfl (op_lss rfl (Opd.tmp _ _ rfl) (Opd.const _)) ?_
    refine Run.nil (FinR.mk ?_)
    refine nK ?_
    have h1' : fndI g.es f t = -1 := h1
    rw [h1']
    refine nK ?_
    refine n_cond _ rfl (fun hb => ?_) (fun hb => ?_)
    · refine nK ?_
      refine s_reg rfl ?_
      refine Run.pure (dd := some 6) rfl rfl (op_assign rfl (Opd.const _)) ?_
      refine Run.pure (dd := some 7) rfl rfl (op_assign rfl (Opd.const _)) ?_
      refine Run.nil (FinR.mk ?_)
      refine nK ?_
      (first | exact s_o1 hC rfl tV | exact s_o2 hC rfl tV tV | exact s_o3 hC rfl tV tV tV | exact s_o4 hC rfl tV tV tV tV | exact s_out0 hC rfl | exact s_outO hC rfl rfl rfl)
    · simp at hb
  · rw [h2]
    have hr1 := row_at' encE g.es j hj
    refine Meets.intro Try.func14 rfl (Nat.le_of_ble_eq_true rfl) fun C hC => ?_
    simp only [List.map, argEnv, Nat.reduceAdd]
    refine nK ?_
    refine s_reg rfl ?_
    refine Run.eff (dd := some 3) rfl rfl (op_box_flat rfl (Opd.tmp _ _ rfl) tC rfl) ?_
    refine Run.pure (dd := some 6) rfl rfl (op_assign rfl (Opd.const _)) ?_
    refine Run.pure (dd := some 7) rfl rfl (op_assign rfl (Opd.const _)) ?_
    refine Run.nil (FinR.mk ?_)
    refine nK ?_
    refine s_reg rfl ?_
    refine Run.load (dd := some 9) rfl rfl (op_loadw_flat rfl (Opd.tmp _ _ rfl) tH rfl) ?_
    refine Run.pure (dd := some 10) rfl rfl (op_move rfl (Opd.tmp _ _ rfl)) ?_
    refine Run.pure (dd := some 11) rfl rfl (op_move rfl (Opd.tmp _ _ rfl)) ?_
    refine Run.pure (dd := some 12) rfl rfl (op_call_pure (fun _ => find_c _ _ _ (by omega)) rfl (Opd.func _) (Opds.cons _ _ _ _ (Opd.tmp _ _ rfl) (Opds.cons _ _ _ _ (Opd.tmp _ _ rfl) (Opds.cons _ _ _ _ (Opd.tmp _ _ rfl) Opds.nil)))) ?_
    refine Run.pure (dd := some 8) rfl rfl (op_assign rfl (Opd.tmp _ _ rfl)) ?_
    refine Run.nil (FinR.mk ?_)
    refine nK ?_
    refine s_reg rfl ?_
    refine Run.pure (dd := some 13) rfl rfl (op_move rfl (Opd.tmp _ _ rfl)) ?_
    refine Run.pure (dd := some 14) rfl rfl (op_lss rfl (Opd.tmp _ _ rfl) (Opd.const _)) ?_
    refine Run.nil (FinR.mk ?_)
    refine nK ?_
    have h1' : fndI g.es f t = ((0 + j : Nat) : Int) := h1
    rw [h1']
    refine nK ?_
    refine n_cond _ rfl (fun hb => ?_) (fun hb => ?_)
    · simp at hb; omega
    · refine nK ?_
      refine s_reg rfl ?_
      refine Run.pure (dd := some 15) rfl rfl (op_fld_ptr (by decide) rfl (Opd.tmp _ _ rfl)) ?_
      refine Run.load (dd := some 16) rfl rfl (op_load1_flat rfl (Opd.tmp _ _ rfl) tH rfl) ?_
      refine Run.pure (dd := some 17) rfl rfl (op_move rfl (Opd.tmp _ _ rfl)) ?_
      refine Run.pure (dd := some 18) rfl rfl (op_idx_fz j rfl (Opd.tmp _ _ rfl) (Opd.tmp _ _ rfl) (by intro _; exact ⟨by omega, hr1⟩)) ?_
      refine Run.pure (dd := some 19) rfl rfl (op_fld_fz (by decide) rfl (Opd.tmp _ _ rfl) tR) ?_
      refine Run.pure (dd := some 20) rfl rfl (op_load1_fz rfl (Opd.tmp _ _ rfl) rfl) ?_
      refine Run.pure (dd := some 6) rfl rfl (op_assign rfl (Opd.tmp _ _ rfl)) ?_
      refine Run.pure (dd := some 7) rfl rfl (op_assign rfl (Opd.const _)) ?_
      refine Run.nil (FinR.mk ?_)
      refine nK ?_
      (first | exact s_o1 hC rfl tV | exact s_o2 hC rfl tV tV | exact s_o3 hC rfl tV tV tV | exact s_o4 hC rfl tV tV tV tV | exact s_out0 hC rfl | exact s_outO hC rfl rfl rfl)
theorem same_step {α : Type} [DecidableEq α] {a b : List α} {i : Nat} (ha : i < a.length) (hb : i < b.length) : (a.drop i = b.drop i) ↔ a[i] = b[i] ∧ a.drop (i + 1) = b.drop (i + 1) := by
  rw [List.drop_eq_getElem_cons ha, List.drop_eq_getElem_cons hb, List.cons.injEq]
theorem same_c (a b : Gr) (ha : a.es.length ≤ 40000000) (hb0 : b.es.length ≤ 40000000) : Pure Try.prog 34 [.agg (encG a), .agg (encG b)] (Bf (decide (a = b))) := by
  refine Meets.intro Try.func34 rfl (Nat.le_of_ble_eq_true rfl) fun C hC => ?_
  simp only [List.map, argEnv, Nat.reduceAdd]
  refine nK ?_
  refine s_reg rfl ?_
  refine Run.eff (dd := some 2) rfl rfl (op_box_flat rfl (Opd.tmp _ _ rfl) tC rfl) ?_
  refine Run.eff (dd := some 3) rfl rfl (op_box_flat rfl (Opd.tmp _ _ rfl) tC rfl) ?_
  refine Run.pure (dd := some 4) rfl rfl (op_assign rfl (Opd.const _)) ?_
  refine Run.nil (FinR.mk ?_)
  refine nK ?_
  refine s_reg rfl ?_
  refine Run.pure (dd := some 6) rfl rfl (op_fld_ptr (by decide) rfl (Opd.tmp _ _ rfl)) ?_
  refine Run.load (dd := some 7) rfl rfl (op_load1_flat rfl (Opd.tmp _ _ rfl) tH rfl) ?_
  refine Run.pure (dd := some 8) rfl rfl (op_fld_ptr (by decide) rfl (Opd.tmp _ _ rfl)) ?_
  refine Run.load (dd := some 9) rfl rfl (op_load1_flat rfl (Opd.tmp _ _ rfl) tH rfl) ?_
  refine Run.pure (dd := some 10) rfl rfl (op_neq rfl (Opd.tmp _ _ rfl) (Opd.tmp _ _ rfl)) ?_
  refine Run.pure (dd := some 11) rfl rfl (op_move rfl (Opd.tmp _ _ rfl)) ?_
  refine Run.pureG (dd := some 12) rfl rfl rfl tG (op_fld_ptr (by decide) rfl (Opd.tmp _ _ rfl)) ?_
  refine Run.loadG (dd := some 13) rfl rfl rfl tG (op_load1_flat rfl (Opd.topt _ _ _ rfl tO) tH rfl) ?_
  refine Run.pureG (dd := some 14) rfl rfl rfl tG (op_fld_ptr (by decide) rfl (Opd.tmp _ _ rfl)) ?_
  refine Run.loadG (dd := some 15) rfl rfl rfl tG (op_load1_flat rfl (Opd.topt _ _ _ rfl tO) tH rfl) ?_
  refine Run.pureG (dd := some 16) rfl rfl rfl tG (op_neq rfl (Opd.topt _ _ _ rfl tO) (Opd.topt _ _ _ rfl tO)) ?_
  refine Run.pure (dd := some 17) rfl rfl (op_pick_or rfl (Opd.tmp _ _ rfl) (Opd.topt _ _ _ rfl tO)) ?_
  refine Run.pure (dd := some 18) rfl rfl (op_move rfl (Opd.tmp _ _ rfl)) ?_
  refine Run.pureG (dd := some 19) rfl rfl rfl tG (op_fld_ptr (by decide) rfl (Opd.tmp _ _ rfl)) ?_
  refine Run.loadG (dd := some 20) rfl rfl rfl tG (op_load1_flat rfl (Opd.topt _ _ _ rfl tO) tH rfl) ?_
  refine Run.pureG (dd := some 21) rfl rfl rfl tG (op_len_fz rfl (by first | exact Opd.topt _ _ _ rfl tO | exact Opd.nil _ _ (Opd.topt _ _ _ rfl tO)) (by first | exact List.length_map _ | rfl)) ?_
  refine Run.pureG (dd := some 22) rfl rfl rfl tG (op_fld_ptr (by decide) rfl (Opd.tmp _ _ rfl)) ?_
  refine Run.loadG (dd := some 23) rfl rfl rfl tG (op_load1_flat rfl (Opd.topt _ _ _ rfl tO) tH rfl) ?_
  refine Run.pureG (dd := some 24) rfl rfl rfl tG (op_len_fz rfl (by first | exact Opd.topt _ _ _ rfl tO | exact Opd.nil _ _ (Opd.topt _ _ _ rfl tO)) (by first | exact List.length_map _ | rfl)) ?_
  refine Run.pureG (dd := some 25) rfl rfl rfl tG (op_neq rfl (Opd.topt _ _ _ rfl tO) (Opd.topt _ _ _ rfl tO)) ?_
  refine Run.pure (dd := some 26) rfl rfl (op_pick_or rfl (Opd.tmp _ _ rfl) (Opd.topt _ _ _ rfl tO)) ?_
  refine Run.nil (FinR.mk ?_)
  refine nK ?_
  refine n_cond _ rfl (fun hb => ?_) (fun hb => ?_)
  · have e : decide (a = b) = false := by
      rw [decide_eq_false_iff_not]; rintro rfl; simp at hb
    rw [e]
    refine nK ?_
    refine s_reg rfl ?_
    refine Run.pure (dd := some 4) rfl rfl (op_assign rfl (Opd.const _)) ?_
    refine Run.nil (FinR.mk ?_)
    refine nK ?_
    (first | exact s_o1 hC rfl tV | exact s_o2 hC rfl tV tV | exact s_o3 hC rfl tV tV tV | exact s_o4 hC rfl tV tV tV tV | exact s_out0 hC rfl | exact s_outO hC rfl rfl rfl)
  · have hl : a.r = b.r ∧ a.n = b.n ∧ a.es.length = b.es.length := by simp at hb; omega
    obtain ⟨hr, hn, hl⟩ := hl
    have hab : a = b ↔ a.es = b.es := by
      constructor
      · rintro rfl; rfl
      · intro h; cases a; cases b; simp_all
    refine nK ?_
    refine s_reg rfl ?_
    refine Run.pure (dd := some 5) rfl rfl (op_assign rfl (Opd.const _)) ?_
    refine Run.nil (FinR.mk ?_)
    refine nK ?_
    refine n_loop (ι := Nat) (fun i => ([(2, .ptr 0 3 0 0), (3, .ptr 1 3 0 0), (5, IV .i64 i)], [(0, OG a), (1, OG b)], 2)) (fun i => i ≤ a.es.length ∧ (a = b ↔ a.es.drop i = b.es.drop i)) (fun i => a.es.length - i) 0 ⟨Nat.zero_le _, hab⟩ ?_ ?_
    · refine Next.weakS [2, 3] [] (by rfl) (by first | exact keeps0 hC _ | exact keepsN hC _ rfl) (by repeat (first | exact trivial | refine ⟨⟨_, rfl, .inl ⟨rfl, rfl⟩⟩, ?_⟩ | refine ⟨⟨_, rfl, .inl ⟨slEq rfl tN, rfl⟩⟩, ?_⟩ | refine ⟨⟨_, rfl, .inl ⟨ivEq tX, rfl⟩⟩, ?_⟩)) (by repeat (first | exact trivial | refine ⟨ent_same rfl rfl rfl tL, ?_⟩ | refine ⟨ent_same rfl rfl (rfEq rfl tU) tL, ?_⟩ | refine ⟨ent_same rfl rfl (flEq rfl (by first | (simp; done) | (simp; omega) | (simp [encE, encN, encB]; done) | simp [maxC, minC])) trivial, ?_⟩)) rfl (rel_intro)
    · intro i ⟨hi, ho⟩ K hK
      refine nK ?_
      refine s_reg rfl ?_
      refine Run.pure (dd := some 27) rfl rfl (op_move rfl (Opd.tmp _ _ rfl)) ?_
      refine Run.pure (dd := some 28) rfl rfl (op_fld_ptr (by decide) rfl (Opd.tmp _ _ rfl)) ?_
      refine Run.load (dd := some 29) rfl rfl (op_load1_flat rfl (Opd.tmp _ _ rfl) tH rfl) ?_
      refine Run.pure (dd := some 30) rfl rfl (op_len_fz rfl (by first | exact Opd.tmp _ _ rfl | exact Opd.nil _ _ (Opd.tmp _ _ rfl)) (by first | exact List.length_map _ | rfl)) ?_
      refine Run.pure (dd := some 31) rfl rfl (op_lss rfl (Opd.tmp _ _ rfl) (Opd.tmp _ _ rfl)) ?_
      refine Run.nil (FinR.mk ?_)
      refine nK ?_
      refine n_cond _ rfl (fun hb => ?_) (fun hb => ?_)
      · have hlt : i < a.es.length := by simp at hb; omega
        have hlt2 : i < b.es.length := by omega
        rw [same_step hlt hlt2] at ho
        have hr1 := row_at' encE a.es i hlt
        have hr2 := row_at' encE b.es i hlt2
        have hK1 := fun h => hK (i + 1) ⟨by omega, h⟩ (by omega)
        generalize a.es[i] = x at *
        generalize b.es[i] = y at *
        refine nK ?_
        refine s_draw mixed ?_
        refine Run.pure (dd := some 34) rfl rfl (op_fld_ptr (by decide) rfl (Opd.tmp _ _ rfl)) ?_
        refine Run.load (dd := some 35) rfl rfl (op_load1_flat rfl (Opd.tmp _ _ rfl) tH rfl) ?_
        refine Run.pure (dd := some 36) rfl rfl (op_move rfl (Opd.tmp _ _ rfl)) ?_
        refine Run.pure (dd := some 37) rfl rfl (op_idx_fz _ rfl (Opd.tmp _ _ rfl) (Opd.tmp _ _ rfl) tF) ?_
        refine Run.pure (dd := some 38) rfl rfl (op_loadw_fz rfl (Opd.tmp _ _ rfl) rfl) ?_
        refine Run.pure (dd := some 39) rfl rfl (op_fld_ptr (by decide) rfl (Opd.tmp _ _ rfl)) ?_
        refine Run.load (dd := some 40) rfl rfl (op_load1_flat rfl (Opd.tmp _ _ rfl) tH rfl) ?_
        refine Run.pure (dd := some 41) rfl rfl (op_move rfl (Opd.tmp _ _ rfl)) ?_
        refine Run.pure (dd := some 42) rfl rfl (op_idx_fz _ rfl (Opd.tmp _ _ rfl) (Opd.tmp _ _ rfl) tF) ?_
        refine Run.pure (dd := some 43) rfl rfl (op_loadw_fz rfl (Opd.tmp _ _ rfl) rfl) ?_
        refine Run.pure (dd := some 44) rfl rfl (op_neS rfl (Opd.tmp _ _ rfl) (Opd.tmp _ _ rfl) (by kernel_rfl)) ?_
        refine Run.nil (FinD.mk (by kernel_rfl) ?_)
        refine nK ?_
        refine n_cond _ rfl (fun hb => ?_) (fun hb => ?_)
        · have e : decide (a = b) = false := by
            rw [decide_eq_false_iff_not, ho]; rw [eqFs_encE] at hb; simp at hb; exact fun h => hb h.1
          rw [e]
          refine nK ?_
          refine s_reg rfl ?_
          refine Run.pure (dd := some 4) rfl rfl (op_assign rfl (Opd.const _)) ?_
          refine Run.nil (FinR.mk ?_)
          refine nK ?_
          (first | exact s_o1 hC rfl tV | exact s_o2 hC rfl tV tV | exact s_o3 hC rfl tV tV tV | exact s_o4 hC rfl tV tV tV tV | exact s_out0 hC rfl | exact s_outO hC rfl rfl rfl)
        · rw [eqFs_encE] at hb
          refine nK ?_
          refine s_reg rfl ?_
          refine Run.pure (dd := some 32) rfl rfl (op_move rfl (Opd.tmp _ _ rfl)) ?_
          refine Run.pure (dd := some 33) rfl rfl (op_add rfl (Opd.tmp _ _ rfl) (Opd.const _) tI) ?_
          refine Run.pure (dd := some 5) rfl rfl (op_assign rfl (Opd.tmp _ _ rfl)) ?_
          refine Run.nil (FinR.mk ?_)
          refine nK ?_
          refine Next.weakS [2, 3] [] (by rfl) (by first | exact keeps0 hC _ | exact keepsN hC _ rfl) (by repeat (first | exact trivial | refine ⟨⟨_, rfl, .inl ⟨rfl, rfl⟩⟩, ?_⟩ | refine ⟨⟨_, rfl, .inl ⟨slEq rfl tN, rfl⟩⟩, ?_⟩ | refine ⟨⟨_, rfl, .inl ⟨ivEq tX, rfl⟩⟩, ?_⟩)) (by repeat (first | exact trivial | refine ⟨ent_same rfl rfl rfl tL, ?_⟩ | refine ⟨ent_same rfl rfl (rfEq rfl tU) tL, ?_⟩ | refine ⟨ent_same rfl rfl (flEq rfl (by first | (simp; done) | (simp; omega) | (simp [encE, encN, encB]; done) | simp [maxC, minC])) trivial, ?_⟩)) rfl ((hK1 (ho.trans ⟨fun h => h.2, fun h => ⟨by simpa using hb, h⟩⟩)))
      · have hie : i = a.es.length := by simp at hb; omega
        have e : decide (a = b) = true := by
          rw [decide_eq_true_iff, ho, hie, List.drop_length, hl, List.drop_length]
        rw [e]
        refine nK ?_
        refine s_reg rfl ?_
        refine Run.pure (dd := some 4) rfl rfl (op_assign rfl (Opd.const _)) ?_
        refine Run.nil (FinR.mk ?_)
        refine nK ?_
        (first | exact s_o1 hC rfl tV | exact s_o2 hC rfl tV tV | exact s_o3 hC rfl tV tV tV | exact s_o4 hC rfl tV tV tV tV | exact s_out0 hC rfl | exact s_outO hC rfl rfl rfl)
end Go.Proofs.Ytdhkioocjgpocaa
/- Runs of equal elements cut to one. -/
namespace Go.Pl
set_option linter.all false
def ddF {α : Type} (eq : α → α → Bool) : α → List α → List α
  | _, [] => []
  | p, x :: l => bif eq x p then ddF eq x l else x :: ddF eq x l
def compL {α : Type} (eq : α → α → Bool) : List α → List α
  | [] => []
  | x :: l => x :: ddF eq x l
def lastD {α : Type} : α → List α → α
  | p, [] => p
  | _, x :: l => lastD x l
theorem ddF_snoc {α : Type} (eq : α → α → Bool) (y : α) : ∀ (l : List α) (p : α), ddF eq p (l ++ [y]) = ddF eq p l ++ bif eq y (lastD p l) then [] else [y]
  | [], p => by simp [ddF, lastD]
  | x :: l, p => by
    simp only [List.cons_append, ddF, lastD, ddF_snoc eq y l x]
    cases eq x p <;> simp
theorem lastD_get {α : Type} : ∀ (l : List α) (p : α) , (p :: l)[l.length]? = some (lastD p l)
  | [], p => rfl
  | x :: l, p => by simpa [lastD] using lastD_get l x
theorem ddF_len {α : Type} (eq : α → α → Bool) : ∀ (l : List α) (p : α), (ddF eq p l).length ≤ l.length
  | [], _ => by simp [ddF]
  | x :: l, p => by
    have := ddF_len eq l x
    simp only [ddF, List.length_cons]; cases eq x p <;> simp <;> omega
theorem compL_len {α : Type} (eq : α → α → Bool) (l : List α) : (compL eq l).length ≤ l.length := by
  cases l with
  | nil => simp [compL]
  | cons x l => have := ddF_len eq l x; simp [compL]; omega
/-- one element more -/
theorem compL_take {α : Type} (eq : α → α → Bool) (l : List α) (n : Nat) (h0 : 0 < n) (h : n < l.length) : compL eq (l.take (n + 1)) = compL eq (l.take n) ++ bif eq l[n] l[n - 1] then [] else [l[n]] := by
  cases l with
  | nil => simp at h
  | cons x l =>
    obtain ⟨m, rfl⟩ : ∃ m, n = m + 1 := ⟨n - 1, by omega⟩
    have hm : m < l.length := by simpa using h
    rw [List.take_succ_cons, List.take_succ_cons]
    simp only [compL]
    rw [List.take_succ_eq_append_getElem hm, ddF_snoc]
    have hl : lastD x (l.take m) = (x :: l)[m]'(by simp; omega) := by
      have h1 := lastD_get (l.take m) x
      have e : (l.take m).length = m := by simp; omega
      rw [e, ← List.take_succ_cons, List.getElem?_take, if_pos (by omega), List.getElem?_eq_getElem (by simp; omega)] at h1
      exact (Option.some.inj h1).symm
    rw [hl]
    simp
theorem compL_len_lt {α : Type} (eq : α → α → Bool) (l : List α) (n : Nat) (h0 : 0 < n) (h : n < l.length) (he : eq l[n] l[n - 1] = true) (j : Nat) (hj : n < j) (hjl : j ≤ l.length) : (compL eq (l.take j)).length < j := by
  obtain ⟨d, rfl⟩ : ∃ d, j = n + 1 + d := ⟨j - (n + 1), by omega⟩
  clear hj
  induction d with
  | zero =>
    rw [Nat.add_zero, compL_take eq l n h0 h, he, cond_true, List.append_nil]
    have := compL_len eq (l.take n)
    simp at this; omega
  | succ d ih =>
    have := ih (by omega)
    rw [← Nat.add_assoc, compL_take eq l (n + 1 + d) (by omega) (by omega), List.length_append]
    cases eq l[n + 1 + d] l[n + 1 + d - 1] <;> simp <;> omega
theorem compL_one {α : Type} (eq : α → α → Bool) (l : List α) (h : 0 < l.length) : compL eq (l.take 1) = l.take 1 := by
  cases l with
  | nil => simp at h
  | cons x l => simp [compL, ddF]
/-- writing at the end of what is kept -/
theorem set_kept {α : Type} (c l : List α) (x : α) (h : c.length < l.length) : (c ++ l.drop c.length).set c.length x = (c ++ [x]) ++ l.drop (c ++ [x]).length := by
  have e := List.drop_eq_getElem_cons h
  rw [List.set_append, if_neg (by omega), Nat.sub_self, e, List.set_cons_zero]
  simp
theorem kept_get {α : Type} (c l : List α) (j : Nat) (h : c.length ≤ j) : (c ++ l.drop c.length)[j]? = l[j]? := by
  rw [List.getElem?_append, if_neg (by omega), List.getElem?_drop]; congr 1; omega
theorem kept_len {α : Type} (c l : List α) (h : c.length ≤ l.length) : (c ++ l.drop c.length).length = l.length := by simp; omega
end Go.Pl
/- The kit's contract of slices.SortFunc, turned into one of the engine's. -/
namespace Go.RT
open Go Go.Proofs Go.Sort Go.Shelf
set_option linter.all false
theorem Mem.reheap {C : Cx} {H H' : Hp} {nx : Nat} {S : Nat → Prop} {m : Ids} {w : World} (k1 : Mem C H nx S m w) (hh : ∀ id, hlook H' id = hlook H id) : Mem C H' nx S m w :=
  ⟨k1.os, k1.tape, k1.output, k1.fz, k1.size, k1.frame, k1.le, k1.sub, k1.n0, fun id o h => k1.objs id o ((hh id).symm.trans h), fun id o b h => k1.blk id o b ((hh id).symm.trans h), fun a b o1 o2 bb h1 h2 => k1.inj a b o1 o2 bb ((hh a).symm.trans h1) ((hh b).symm.trans h2), k1.stab, k1.fresh, k1.nkeep (Le.refl _ _ _) (Nat.le_refl _) (fun _ _ _ _ _ _ h => h.of fun o h => (hh _).symm.trans h) (fun _ _ _ _ _ _ _ c e _ _ _ k2 k3 => ⟨c, e, k2, k3⟩) (fun b' _ h2 h3 => ⟨rfl, h2, fun id2 o2 h => h3 _ _ ((hh id2).symm.trans h)⟩)⟩
def grown (w : World) (os : Array Obj) (q : Nat) : World := { w with heap := w.heap ++ os, drawn := w.drawn + q }
theorem grown_old (w : World) (os : Array Obj) (q : Nat) {b : Nat} (hb : b < w.heap.size) : (grown w os q).heap[b]? = w.heap[b]? := by simp [grown, Array.getElem?_append, hb]
theorem Mem.grow {C : Cx} {H : Hp} {nx : Nat} {S : Nat → Prop} {m : Ids} {w : World} (hm : Mem C H nx S m w) (os : Array Obj) (q : Nat) : Mem C H nx S m (grown w os q) ∧ Le S m w S m (grown w os q) := by
  have hsz : w.heap.size ≤ (grown w os q).heap.size := by simp [grown]
  have hle : Le S m w S m (grown w os q) := by
    refine ⟨fun _ h => h, fun b hb => grown_old w os q (hm.stab b hb), fun _ _ h => h, fun b n ⟨c, e, fr, h1, h2⟩ => ⟨c, e, fr, ?_, h2⟩⟩
    rw [grown_old w os q (Array.getElem?_eq_some_iff.1 h1).1]; exact h1
  refine ⟨hm.step hle ⟨rfl, Nat.le_add_right _ _⟩ rfl rfl (fun a ha => ?_) hsz (fun b hb _ => grown_old w os q (Nat.lt_of_lt_of_le hb hm.size)) (fun b hb => .inl hb) (fun id o ho => (hm.objs id o ho).mono hle fun b hb => grown_old w os q (hm.blk id o b ho hb).2.1)
    (fun id o b ho hb => ?_) hm.inj (fun b hb => Nat.lt_of_lt_of_le (hm.stab b hb) hsz) hm.fresh (hm.nkeep hle hsz (fun _ _ _ _ _ _ h => h) (fun id sz i j isz irows b2 c2 e2 u _ _ q2 q3 => ⟨c2, e2, (grown_old w os q (Array.getElem?_eq_some_iff.1 q2).1).trans q2, q3⟩) (fun b' h1 h2 h3 => ⟨grown_old w os q h1, h2, h3⟩)), hle⟩
  · simp only [World.frozen?, grown_old w os q ha]
  · obtain ⟨h1, h2, h3⟩ := hm.blk id o b ho hb
    exact ⟨h1, Nat.lt_of_lt_of_le h2 hsz, h3⟩
theorem mapBlock_setRow {w : World} {b : Nat} {c : Array Value} {e : TypeId} {fr : Nat × Nat} (f : Array Value → Array Value) (hc : w.heap[b]? = some (.cells c e fr)) : mapBlock w b f = w.setRow b (f c) := by
  unfold mapBlock World.setRow
  congr 1
  apply Array.ext_getElem?
  intro i
  simp only [Array.getElem?_modify]
  by_cases h : b = i
  · subst h
    simp [hc, onCells]
  · simp [h]
/-- a run that owns nothing: what it leaves is the world it found, grown -/
theorem Mem.is_grown {C : Cx} {nx : Nat} {S : Nat → Prop} {m : Ids} {w : World} (hm : Mem C [] nx S m w) (ho : ∀ b, ¬ C.own0 b) : ∃ q os, w = grown C.w0 os q := by
  refine ⟨w.drawn - C.w0.drawn, w.heap.extract C.w0.heap.size w.heap.size, ?_⟩
  have h1 : w.heap = C.w0.heap ++ w.heap.extract C.w0.heap.size w.heap.size := by
    apply Array.ext_getElem?
    intro i
    by_cases hi : i < C.w0.heap.size
    · rw [Array.getElem?_append_left hi]; exact hm.frame i hi (ho i)
    · rw [Array.getElem?_append_right (by omega), Array.getElem?_extract]
      have := hm.size
      by_cases h2 : i < w.heap.size
      · rw [if_pos (by simp; omega)]; congr 1; omega
      · rw [if_neg (by simp; omega)]; exact Array.getElem?_eq_none (by omega)
  have h2 : w.drawn = C.w0.drawn + (w.drawn - C.w0.drawn) := by have := hm.os.2; omega
  obtain ⟨heap, tape, drawn, os, output⟩ := w
  unfold grown
  simp only at h1 h2
  have e1 := hm.tape; have e2 := hm.os.1; have e3 := hm.output
  simp only at e1 e2 e3
  subst e1 e2 e3
  simp only [World.mk.injEq, true_and, and_true]
  exact ⟨h1, h2⟩
/-- what slices.SortFunc leaves -/
def sortBy {β : Type} [Inhabited β] (cf : β → β → Int) (l : List β) : List β := (pdq (ltOf cf) l.toArray 0 l.length (Lib.bitLen l.length) true true).toList
theorem sortBy_spec {β : Type} [Inhabited β] (cf : β → β → Int) (hO : SWO (ltOf cf)) (l : List β) : (sortBy cf l).Perm l ∧ (sortBy cf l).length = l.length ∧ ∀ (i j : Nat) (x y : β), i < j → (sortBy cf l)[i]? = some x → (sortBy cf l)[j]? = some y → ¬ cf y x < 0 := by
  have h := pdq_sorts (ltOf cf) hO l.toArray 0 l.length (Lib.bitLen l.length) true true (Nat.zero_le _) (by simp) (Or.inl rfl)
  obtain ⟨⟨p1, p2, p3⟩, p4⟩ := h
  have e : (sortBy cf l).length = l.length := by simpa [sortBy] using p1
  refine ⟨?_, e, fun i j x y hij hx hy => ?_⟩
  · have : ∀ (a : Array β) n, a.size = n → a.extract 0 n = a := fun a n hn => by subst hn; simp
    rw [this _ _ (by simpa using p1), this _ _ (by simp)] at p3
    simpa [sortBy] using p3
  · have hj : j < l.length := by rw [← e]; exact (List.getElem?_eq_some_iff.1 hy).1
    have hj' : j < (pdq (ltOf cf) l.toArray 0 l.length (Lib.bitLen l.length) true true).size := by rw [p1]; simpa using hj
    have := p4 i j (Nat.zero_le _) hij hj
    rw [getElem!_pos _ j hj', getElem!_pos _ i (by omega)] at this
    simp only [sortBy, Array.getElem?_toList] at hx hy
    rw [Array.getElem?_eq_getElem (by omega)] at hx hy
    cases hx; cases hy
    simpa [ltOf] using this
theorem cells_of_rows {w : World} {S : Nat → Prop} {c : Array Value} {k : Nat} {β : Type} [Inhabited β] {ev : β → List Value} (hk0 : 0 < k) (hlen : ∀ x, (ev x).length = k) {l : List β} (h : RowsRep (FRep w S) c k (l.map fun x => (ev x).map FV.lit)) :
    l.length * k ≤ c.size ∧ ∀ j, j < l.length * k → c[j]? = some (flatK ev k l.toArray)[j]! := by
  refine ⟨by simpa using h.1, fun j hj => ?_⟩
  have hd : j / k < l.length := Nat.div_lt_of_lt_mul (by rwa [Nat.mul_comm] at hj)
  have hm := Nat.mod_lt j hk0
  rw [get_flatK _ _ _ _ (by simpa using hj)]
  have hx : (l.map fun x => (ev x).map FV.lit)[j / k]? = some ((ev l[j / k]).map FV.lit) := by simp [hd]
  have hlk : j % k < (ev l[j / k]).length := by rw [hlen]; exact hm
  obtain ⟨u, hu, _, hr⟩ := h.2.2 (j / k) (j % k) _ (.lit (ev l[j / k])[j % k]) hx (by simp [hlk])
  have e : j / k * k + j % k = j := by rw [Nat.mul_comm]; exact Nat.div_add_mod j k
  rw [e] at hu
  rw [hu]
  cases hr
  rw [getElem!_pos _ (j / k) (by simpa using hd), getElem!_pos _ (j % k) (by simpa using hlk)]
  simp
variable {P : Program} {ρ : Ren}
theorem cmp_lays {g k : Nat} {β : Type} [Inhabited β] {ev : β → List Value} (h1 : ∀ x, ∀ v ∈ ev x, v.oneCell' = true) {cf : β → β → Int} (hc : ∀ x y, Pure P g [.agg ((ev x).map .lit), .agg ((ev y).map .lit)] (If .i64 (cf x y))) (blk off size : Nat) (w : World) : CmpLays P g #[] ev k cf blk off size w := by
  intro m os dk _ x y
  generalize sortWorldK ev k w blk off m dk os = W
  let C : Cx := ⟨W, fun _ => False, fun _ => False, fun _ => none, 0⟩
  have hm : Mem C [] 0 C.S0 C.m0 C.w0 := ⟨⟨rfl, Nat.le_refl _⟩, rfl, rfl, fun _ _ => rfl, Nat.le_refl _, fun _ _ _ => rfl, Le.refl _ _ _, fun b h => .inl h, fun i x hx => (by cases hx), fun i o h => (by cases h), fun i o b h => (by cases h), fun i j o1 o2 b h => (by cases h), fun b hb => hb.elim, fun _ _ => rfl, nst_nil⟩
  have ag : ∀ z, FRep W (fun _ => False) (.agg (ev z).toArray) (.agg ((ev z).map .lit)) := fun z => by
    refine .agg _ _ (by simp) (fun i c f hc hf => ?_) (fun i c hc => ?_)
    · simp only [List.getElem?_toArray] at hc
      rw [List.getElem?_map, hc] at hf
      cases hf; exact .lit _
    · simp only [List.getElem?_toArray] at hc
      exact h1 z c (List.mem_of_getElem? hc)
  have := (hc x y).run C [.agg (ev x).toArray, .agg (ev y).toArray] rfl hm rfl (fun i v p hi hp => by
    match i with
    | 0 => simp at hi hp; subst hi; subst hp; exact .fz _ _ (ag x)
    | 1 => simp at hi hp; subst hi; subst hp; exact .fz _ _ (ag y)
    | i + 2 => simp at hi)
  have h2 : Calls P g (#[.agg (ev x).toArray, .agg (ev y).toArray] ++ #[]) W (fun e w' => ∃ v S' m', e = .returned v ∧ Mem C [] 0 S' m' w' ∧ Rep w' S' m' v (.fz (If .i64 (cf x y)))) := by simpa using this
  refine h2.mono fun e w' ⟨v, S', m', he, hm', hr⟩ => ?_
  obtain ⟨q, os', hw⟩ := hm'.is_grown (fun b h => h)
  refine ⟨by rw [he]; cases hr with | fz _ _ h => cases h; rfl, q, os', hw⟩
theorem sort_meets (L : SlLaysF0.n6 P ρ) {k : Nat} (hk0 : 0 < k) (aE : ∀ w, (isAgg (ρ.t 24)).run P w = .ok true w) (zE : ∀ w, (Go.sizeOf (ρ.t 24)).run P w = .ok k w) {β : Type} [Inhabited β] {ev : β → List Value} (hlen : ∀ x, (ev x).length = k) (h1 : ∀ x, ∀ v ∈ ev x, v.oneCell' = true) {cf : β → β → Int} (hO : SWO (ltOf cf)) {g : Nat} (hg : ∀ args w, (callFunc g args).run P w = .ok (.enter g args) w)
    (hc : ∀ x y, Pure P g [.agg ((ev x).map .lit), .agg ((ev y).map .lit)] (If .i64 (cf x y))) {l : List β} (hl : l.length < 4611686018427387904) :
    Meets P (ρ.f 6) [.sl 0 k 0 l.length, .clo g [] []] 1 [(0, some (.flat k (l.map fun x => (ev x).map .lit)))] (.fz (.tup [])) [(0, some (.flat k ((sortBy cf l).map fun x => (ev x).map .lit)))] 1 := by
  refine ⟨fun C vs hn hm hlv hr => ?_⟩
  have tupR : ∀ w' S' m', Rep w' S' m' (.tuple #[]) (.fz (.tup [])) := fun w' S' m' => .fz _ _ (.tup #[] [] rfl (fun i c f hc => by simp at hc))
  match vs, hlv, hr with
  | [v0, v1], _, hr =>
  have r0 := hr 0 v0 _ rfl rfl
  have r1 := hr 1 v1 _ rfl rfl
  have ho := hm.objs 0 _ rfl
  obtain ⟨hs1, hs2, _⟩ := sortBy_spec cf hO l
  cases r1 with
  | clo _ as' cs _ _ ha hcs _ _ =>
  have ea : as' = #[] := by simpa using ha
  have ec : cs = #[] := by simpa using hcs
  subst ea; subst ec
  generalize hll : l.length = n at r0 hl
  cases r0 with
  | sl0 =>
    have : l = [] := List.length_eq_zero_iff.1 hll
    subst this
    have e : sortBy cf ([] : List β) = [] := List.length_eq_zero_iff.1 hs2
    rw [e]
    refine (AnyF.slices_SortFunc_none L none 0 (.func (.func g) #[] #[]) C.w0).mono fun e w' ⟨he, hw⟩ => ?_
    subst hw
    exact ⟨_, _, _, he, hm, tupR _ _ _⟩
  | sl _ _ _ _ b cap h hroom hcap hmx =>
    rcases ho with ⟨h2, _⟩ | ⟨b', c, e, h2, h3, h4⟩
    · rw [h] at h2; cases h2
    · rw [h] at h2; cases h2
      obtain ⟨hsz, hcells⟩ := cells_of_rows hk0 hlen h4
      obtain ⟨hb1, hb2, hb3⟩ := hm.blk 0 _ b rfl h
      have hH : HoldsK ev k C.w0 b (0 * k) l.toArray := by
        intro j hj
        simp at hj
        refine ⟨?_, ?_⟩
        · simp only [World.cell?, h3, Nat.zero_mul, Nat.zero_add]
          simpa using hcells j hj
        · simp [World.frozen?, h3]
      have hcall := AnyQ.slices_SortFunc_eq L k aE zE ev hlen h1 cf hO g #[] b (0 * k) cap l.toArray C.w0 hg (cmp_lays h1 hc b (0 * k) l.toArray.size C.w0) hH hb2 (by simpa [hll] using hl)
      rw [show l.toArray.size = n by simpa using hll] at hcall
      refine hcall.mono fun ex w' ⟨he, q, os, hw⟩ => ?_
      subst hw
      have hls : l.toArray.size = n := by simpa using hll
      have hd : pdq (ltOf cf) l.toArray 0 n (Lib.bitLen n) true true = (sortBy cf l).toArray := by rw [← hll]; simp [sortBy]
      rw [hd]
      have hset : sortWorldK ev k C.w0 b (0 * k) q (sortBy cf l).toArray os = grown (C.w0.setRow b (putCells id 0 (flatK ev k (sortBy cf l).toArray) c)) os q := by
        unfold sortWorldK putRowK putRow
        rw [mapBlock_setRow (w := Go.Sort.ahead C.w0 q) (b := b) (c := c) (e := e) (fr := (0, 0)) _ h3, Nat.zero_mul]
        rfl
      rw [hset]
      have hps : (putCells id 0 (flatK ev k (sortBy cf l).toArray) c).size = c.size := by simp [putCells]
      have hrr : ∀ w' : World, RowsRep (FRep w' C.S0) (putCells id 0 (flatK ev k (sortBy cf l).toArray) c) k ((sortBy cf l).map fun x => (ev x).map FV.lit) := fun w' => by
        refine ⟨by rw [hps]; simpa [hs2] using hsz, fun r hr => ?_, fun i j r p hi hj => ?_⟩
        · obtain ⟨x, _, rfl⟩ := List.mem_map.1 hr
          simp [hlen]
        · rw [List.getElem?_map] at hi
          obtain ⟨x, hx, rfl⟩ := Option.map_eq_some_iff.1 hi
          rw [List.getElem?_map] at hj
          obtain ⟨v, hv, rfl⟩ := Option.map_eq_some_iff.1 hj
          have hjk : j < k := by rw [← hlen x]; exact (List.getElem?_eq_some_iff.1 hv).1
          have hin : i < (sortBy cf l).length := (List.getElem?_eq_some_iff.1 hx).1
          have hlt : i * k + j < (sortBy cf l).length * k := by
            calc i * k + j < i * k + k := by omega
              _ = (i + 1) * k := by rw [Nat.add_mul, Nat.one_mul]
              _ ≤ _ := Nat.mul_le_mul_right _ hin
          have hlt2 : i * k + j < c.size := by rw [hs2] at hlt; omega
          refine ⟨v, ?_, h1 x v (List.mem_of_getElem? hv), .lit v⟩
          have e1 : (i * k + j) / k = i := by rw [Nat.mul_comm, Nat.mul_add_div hk0, Nat.div_eq_of_lt hjk, Nat.add_zero]
          have e2 : (i * k + j) % k = j := by rw [Nat.mul_comm, Nat.mul_add_mod, Nat.mod_eq_of_lt hjk]
          have e3 : (flatK ev k (sortBy cf l).toArray)[i * k + j]! = v := by
            rw [get_flatK _ _ _ _ (by simpa using hlt), e1, e2]
            rw [List.getElem?_eq_getElem hin] at hx
            cases hx
            rw [getElem!_pos _ i (by simpa using hin)]
            have hjl : j < (ev (sortBy cf l)[i]).length := by rw [hlen]; exact hjk
            rw [List.getElem?_eq_getElem hjl] at hv
            cases hv
            simp [hjl]
          unfold putCells
          rw [Array.getElem?_mapIdx, Array.getElem?_eq_getElem hlt2]
          simp only [Option.map_some, Nat.zero_le, true_and, Nat.zero_add, size_flatK, List.size_toArray, Nat.sub_zero, id]
          rw [if_pos hlt, e3]
      obtain ⟨m1, hle1⟩ := hm.write (id := 0) (o' := .flat k ((sortBy cf l).map fun x => (ev x).map .lit)) rfl h h3 hps (plain_hown (by exact trivial)) (fun w' hle hb => .inr ⟨b, _, e, h, hb, hrr w'⟩)
      refine ⟨_, _, _, he, ((m1.reheap (H' := [(0, some (.flat k ((sortBy cf l).map fun x => (ev x).map .lit)))]) (fun id => ?_)).grow os q).1, tupR _ _ _⟩
      simp only [hlook]
      cases Nat.beq 0 id <;> rfl
end Go.RT
/- Sorted lists of numbers. -/
namespace Go.RT
open Go
set_option linter.all false
def srtI (l : List Int) : List Int := l.mergeSort fun x y => decide (x ≤ y)
theorem srtI_perm (l : List Int) : (srtI l).Perm l := List.mergeSort_perm l _
theorem srtI_sorted (l : List Int) : (srtI l).Pairwise (fun x y => x ≤ y) := by
  have := List.pairwise_mergeSort (le := fun x y : Int => decide (x ≤ y)) (fun a b c h1 h2 => by simp at h1 h2 ⊢; omega) (fun a b => by simp; omega) l
  exact this.imp (fun h => by simpa using h)
end Go.RT
/- The nodes to which edges lead: sorted and cut, or put in one by one. -/
namespace Go.Pl
open Go.RT
set_option linter.all false
abbrev eqI (x y : Int) : Bool := decide (x = y)
def tosL (n : Int) (l : List Edg) : List Int := (l.filter fun e => decide (e.f = n)).map (·.t)
def Asc (l : List Int) : Prop := l.Pairwise (fun x y => x < y)
theorem Asc.ext : ∀ {a b : List Int}, Asc a → Asc b → (∀ p, p ∈ a ↔ p ∈ b) → a = b
  | [], [], _, _, _ => rfl
  | [], y :: b, _, _, h => by have := (h y).2 (List.mem_cons_self ..); cases this
  | x :: a, [], _, _, h => by have := (h x).1 (List.mem_cons_self ..); cases this
  | x :: a, y :: b, ha, hb, h => by
    obtain ⟨a1, a2⟩ := List.pairwise_cons.1 ha
    obtain ⟨b1, b2⟩ := List.pairwise_cons.1 hb
    have e : x = y := by
      rcases List.mem_cons.1 ((h x).1 (List.mem_cons_self ..)) with e | h1
      · exact e
      · rcases List.mem_cons.1 ((h y).2 (List.mem_cons_self ..)) with e | h2
        · exact e.symm
        · have := b1 x h1; have := a1 y h2; omega
    subst e
    refine congrArg _ (Asc.ext a2 b2 fun p => ?_)
    constructor
    · intro hp
      rcases List.mem_cons.1 ((h p).1 (List.mem_cons_of_mem _ hp)) with e | h1
      · subst e; have := a1 p hp; omega
      · exact h1
    · intro hp
      rcases List.mem_cons.1 ((h p).2 (List.mem_cons_of_mem _ hp)) with e | h1
      · subst e; have := b1 p hp; omega
      · exact h1
theorem ddF_asc : ∀ (l : List Int) (p : Int), (p :: l).Pairwise (fun x y => x ≤ y) → Asc (p :: ddF eqI p l) ∧ ∀ x, x ∈ p :: ddF eqI p l ↔ x ∈ p :: l
  | [], p, _ => ⟨by simp [Asc, ddF], fun x => by simp [ddF]⟩
  | y :: l, p, h => by
    obtain ⟨h1, h2⟩ := List.pairwise_cons.1 h
    obtain ⟨i1, i2⟩ := ddF_asc l y h2
    have hpy := h1 y (List.mem_cons_self ..)
    simp only [ddF]
    by_cases e : y = p
    · subst e
      simp only [eqI, decide_true, cond_true]
      refine ⟨i1, fun x => ?_⟩
      rw [i2]; simp
    · have : eqI y p = false := by simp [eqI, e]
      rw [this, cond_false]
      refine ⟨List.pairwise_cons.2 ⟨fun z hz => ?_, i1⟩, fun x => ?_⟩
      · have := (i2 z).1 hz
        rcases List.mem_cons.1 this with rfl | hz
        · omega
        · have := (List.pairwise_cons.1 h2).1 z hz; omega
      · rw [List.mem_cons, i2, List.mem_cons]; simp
theorem comp_asc {l : List Int} (h : l.Pairwise (fun x y => x ≤ y)) : Asc (compL eqI l) ∧ ∀ x, x ∈ compL eqI l ↔ x ∈ l := by
  cases l with
  | nil => exact ⟨by simp [Asc, compL], fun x => by simp [compL]⟩
  | cons p l => exact ddF_asc l p h
def nextI (n : Int) (l : List Edg) : List Int := compL eqI (srtI (tosL n l))
theorem nextI_spec (n : Int) (l : List Edg) : Asc (nextI n l) ∧ ∀ x, x ∈ nextI n l ↔ ∃ e ∈ l, e.f = n ∧ e.t = x := by
  obtain ⟨h1, h2⟩ := comp_asc (srtI_sorted (tosL n l))
  refine ⟨h1, fun x => ?_⟩
  show x ∈ compL eqI _ ↔ _
  rw [h2, (srtI_perm _).mem_iff]
  simp [tosL, and_assoc]
end Go.Pl
namespace Go.Proofs.Ytdhkioocjgpocaa
open Go Go.RT Go.Proofs Go.Pl
set_option linter.all false
theorem kept_row {α β : Type} (f : α → β) (c l : List α) (j : Nat) (h : c.length ≤ j) (hj : j < l.length) : ((c ++ l.drop c.length).map f)[j]? = some (f l[j]) := by
  rw [List.getElem?_map, kept_get c l j h, List.getElem?_eq_getElem hj]; rfl
end Go.Proofs.Ytdhkioocjgpocaa
/- Contracts of the library, laid at this translation. Written by the kit's printer. -/
namespace Go.Proofs.Ytdhkioocjgpocaa
open Go Go.Proofs Go.Shelf
def Try.sortEdge_ren : Go.Shelf.Ren := ⟨fun | 6 => 54 | 15 => 78 | 14 => 77 | 28 => 99 | 29 => 100 | 20 => 91 | 21 => 92 | 22 => 93 | 23 => 94 | 24 => 95 | 25 => 96 | 26 => 97 | 27 => 98 | 46 => 103 | 47 => 104 | 48 => 105 | 49 => 106 | 50 => 107 | 57 => 108 | n => n, fun | 22 => 26 | 24 => 41 | 25 => 100 | 3 => 3 | 39 => 117 | 0 => 0 | 53 => 42 | 55 => 127 | 4 => 4 | 46 => 132 | 45 => 131 | 50 => 38 | 5 => 5 | 9 => 9 | 66 => 140 | 70 => 144 | 76 => 146 | 77 => 122 | n => n, fun | n => n⟩
theorem Try.sortEdge : Go.Proofs.SlLaysF0.n6 Try.prog Try.sortEdge_ren := {
  mixed := by kernel_rfl
  f6 := ⟨Try.f54.name, by decide, Try.func54.trans (congrArg some (by kernel_rfl))⟩
  f14 := ⟨Try.f77.name, by decide, Try.func77.trans (congrArg some (by kernel_rfl))⟩
  f15 := Try.func78.trans (congrArg some (by kernel_rfl))
  f20 := ⟨Try.f91.name, by decide, Try.func91.trans (congrArg some (by kernel_rfl))⟩
  f21 := ⟨Try.f92.name, by decide, Try.func92.trans (congrArg some (by kernel_rfl))⟩
  f22 := ⟨Try.f93.name, by decide, Try.func93.trans (congrArg some (by kernel_rfl))⟩
  f23 := ⟨Try.f94.name, by decide, Try.func94.trans (congrArg some (by kernel_rfl))⟩
  f24 := ⟨Try.f95.name, by decide, Try.func95.trans (congrArg some (by kernel_rfl))⟩
  f25 := ⟨Try.f96.name, by decide, Try.func96.trans (congrArg some (by kernel_rfl))⟩
  f26 := ⟨Try.f97.name, by decide, Try.func97.trans (congrArg some (by kernel_rfl))⟩
  f27 := ⟨Try.f98.name, by decide, Try.func98.trans (congrArg some (by kernel_rfl))⟩
  f28 := Try.func99.trans (congrArg some (by kernel_rfl))
  f29 := Try.func100.trans (congrArg some (by kernel_rfl))
  f46 := ⟨Try.f103.name, by decide, Try.func103.trans (congrArg some (by kernel_rfl))⟩
  f47 := Try.func104.trans (congrArg some (by kernel_rfl))
  f48 := Try.func105.trans (congrArg some (by kernel_rfl))
  f49 := ⟨Try.f106.name, by decide, Try.func106.trans (congrArg some (by kernel_rfl))⟩
  f50 := ⟨Try.f107.name, by decide, Try.func107.trans (congrArg some (by kernel_rfl))⟩
  f57 := ⟨Try.f108.name, by decide, Try.func108.trans (congrArg some (by kernel_rfl))⟩
  t0 := Try.underlying0
  a0 := Try.isAgg0
  z0 := Try.sizeOf0
  v0 := Try.zeroValue0
  t3 := Try.underlying3
  a3 := Try.isAgg3
  z3 := Try.sizeOf3
  v3 := Try.zeroValue3
  t4 := Try.underlying4
  a4 := Try.isAgg4
  z4 := Try.sizeOf4
  v4 := Try.zeroValue4
  t5 := Try.underlying5
  a5 := Try.isAgg5
  z5 := Try.sizeOf5
  v5 := Try.zeroValue5
  t9 := Try.underlying9
  a9 := Try.isAgg9
  z9 := Try.sizeOf9
  v9 := Try.zeroValue9
  t22 := Try.underlying26
  a22 := Try.isAgg26
  z22 := Try.sizeOf26
  v22 := Try.zeroValue26
  t25 := Try.underlying100
  a25 := Try.isAgg100
  z25 := Try.sizeOf100
  v25 := Try.zeroValue100
  t39 := Try.underlying117
  a39 := Try.isAgg117
  z39 := Try.sizeOf117
  v39 := Try.zeroValue117
  t45 := Try.underlying131
  a45 := Try.isAgg131
  z45 := Try.sizeOf131
  v45 := Try.zeroValue131
  t46 := Try.underlying132
  a46 := Try.isAgg132
  z46 := Try.sizeOf132
  v46 := Try.zeroValue132
  t50 := Try.underlying38
  a50 := Try.isAgg38
  z50 := Try.sizeOf38
  v50 := Try.zeroValue38
  t53 := Try.underlying42
  a53 := Try.isAgg42
  z53 := Try.sizeOf42
  v53 := Try.zeroValue42
  t55 := Try.underlying127
  a55 := Try.isAgg127
  z55 := Try.sizeOf127
  v55 := Try.zeroValue127
  t66 := Try.underlying140
  a66 := Try.isAgg140
  z66 := Try.sizeOf140
  v66 := Try.zeroValue140
  t70 := Try.underlying144
  a70 := Try.isAgg144
  z70 := Try.sizeOf144
  v70 := Try.zeroValue144
  t76 := Try.underlying146
  a76 := Try.isAgg146
  z76 := Try.sizeOf146
  v76 := Try.zeroValue146
  t77 := Try.underlying122
  a77 := Try.isAgg122
  z77 := Try.sizeOf122
  v77 := Try.zeroValue122 }
open Go Go.RT Go.Proofs Go.Pl
set_option maxRecDepth 20000
theorem compactF_c (l : List Edg) (hn : l.length ≤ 40000000) (gf : Nat) [FnB Try.prog gf] (eq : Edg → Edg → Bool) (hcl0 : ∀ x y, Pure Try.prog gf [.agg (encE x), .agg (encE y)] (Bf (eq x y))) : Meets Try.prog 59 [.sl 0 3 0 l.length, .clo gf [] []] 1 [(0, OE l)] (.fz (VE (compL eq l))) [] 1 := by
  refine Meets.intro Try.func59 rfl (Nat.le_of_ble_eq_true rfl) fun C hC => ?_
  simp only [List.map, argEnv, Nat.reduceAdd]
  refine nK ?_
  refine s_reg rfl ?_
  refine Run.pure (dd := some 4) rfl rfl (op_assign rfl (Opd.const _)) ?_
  refine Run.nil (FinR.mk ?_)
  refine nK ?_
  refine s_reg rfl ?_
  refine Run.pure (dd := some 8) rfl rfl (op_move rfl (Opd.tmp _ _ rfl)) ?_
  refine Run.pure (dd := some 9) rfl rfl (op_len_sl rfl (Opd.tmp _ _ rfl)) ?_
  refine Run.pure (dd := some 10) rfl rfl (op_lss rfl (Opd.tmp _ _ rfl) (Opd.const _)) ?_
  refine Run.nil (FinR.mk ?_)
  refine nK ?_
  refine n_cond _ rfl (fun hb => ?_) (fun hb => ?_)
  · have h2 : l.length < 2 := by simp at hb; omega
    have e : compL eq l = l := by
      match l, h2 with
      | [], _ => rfl
      | [x], _ => rfl
    rw [e]
    refine nK ?_
    refine s_reg rfl ?_
    refine Run.pure (dd := some 11) rfl rfl (op_move rfl (Opd.tmp _ _ rfl)) ?_
    refine Run.pure (dd := some 4) rfl rfl (op_assign rfl (Opd.tmp _ _ rfl)) ?_
    refine Run.nil (FinR.mk ?_)
    refine nK ?_
    refine Next.weakS [4] [4] (by rfl) (keepsN hC _ rfl) (G' := [(4, .fz (VE l))]) (H' := []) (by repeat (first | exact trivial | refine ⟨⟨_, rfl, .inl ⟨rfl, rfl⟩⟩, ?_⟩ | refine ⟨⟨_, rfl, .inl ⟨slEq rfl tN, rfl⟩⟩, ?_⟩ | refine ⟨⟨_, rfl, .inl ⟨ivEq tX, rfl⟩⟩, ?_⟩ | refine ⟨⟨_, rfl, .inr ⟨_, rfl, tW⟩⟩, ?_⟩)) trivial rfl ?_
    exact n_out1 rfl (by rfl) rfl rfl
  · have h2 : 2 ≤ l.length := by simp at hb; omega
    refine nK ?_
    refine s_reg rfl ?_
    refine Run.pure (dd := some 5) rfl rfl (op_assign rfl (Opd.const _)) ?_
    refine Run.nil (FinR.mk ?_)
    refine nK ?_
    refine n_loop (ι := Nat) (fun k => ([(0, .sl 0 3 0 l.length), (1, .clo gf [] []), (5, IV .i64 k)], [(0, OE l)], 1)) (fun k => 1 ≤ k ∧ k ≤ l.length ∧ compL eq (l.take k) = l.take k) (fun k => l.length - k) 1 ⟨Nat.le_refl _, by omega, compL_one eq l (by omega)⟩ ?_ ?_
    · refine Next.weakS [0] [] (by rfl) (by first | exact keeps0 hC _ | exact keepsN hC _ rfl) (by repeat (first | exact trivial | refine ⟨⟨_, rfl, .inl ⟨rfl, rfl⟩⟩, ?_⟩ | refine ⟨⟨_, rfl, .inl ⟨slEq rfl tN, rfl⟩⟩, ?_⟩ | refine ⟨⟨_, rfl, .inl ⟨ivEq tX, rfl⟩⟩, ?_⟩)) (by repeat (first | exact trivial | refine ⟨ent_same rfl rfl rfl tL, ?_⟩ | refine ⟨ent_same rfl rfl (rfEq rfl tU) tL, ?_⟩ | refine ⟨ent_same rfl rfl (flEq rfl (by first | (simp; done) | (simp; omega) | (simp [encE, encN, encB]; done) | simp [maxC, minC])) trivial, ?_⟩)) rfl (rel_intro)
    · intro k ⟨hk1, hk2, hc⟩ K hK
      refine nK ?_
      refine s_reg rfl ?_
      refine Run.pure (dd := some 12) rfl rfl (op_move rfl (Opd.tmp _ _ rfl)) ?_
      refine Run.pure (dd := some 13) rfl rfl (op_move rfl (Opd.tmp _ _ rfl)) ?_
      refine Run.pure (dd := some 14) rfl rfl (op_len_sl rfl (Opd.tmp _ _ rfl)) ?_
      refine Run.pure (dd := some 15) rfl rfl (op_lss rfl (Opd.tmp _ _ rfl) (Opd.tmp _ _ rfl)) ?_
      refine Run.nil (FinR.mk ?_)
      refine nK ?_
      refine n_cond _ rfl (fun hb => ?_) (fun hb => ?_)
      · have hlt : k < l.length := by simp at hb; omega
        have hr1 := row_at' encE l k hlt
        have hr2 := row_at' encE l (k - 1) (by omega)
        have hst := compL_take eq l k (by omega) hlt
        refine nK ?_
        refine s_draw mixed ?_
        refine Run.pure (dd := some 18) rfl rfl (op_move rfl (Opd.tmp _ _ rfl)) ?_
        refine Run.pure (dd := some 19) rfl rfl (op_move rfl (Opd.tmp _ _ rfl)) ?_
        refine Run.pure (dd := some 20) rfl rfl (op_move rfl (Opd.tmp _ _ rfl)) ?_
        refine Run.pure (dd := some 21) rfl rfl (op_idx_sl0 k rfl (Opd.tmp _ _ rfl) (Opd.tmp _ _ rfl) (by intro _; constructor <;> omega)) ?_
        refine Run.load (dd := some 22) rfl rfl (op_loadw_flat rfl (Opd.tmp _ _ rfl) tH rfl) ?_
        refine Run.pure (dd := some 23) rfl rfl (op_move rfl (Opd.tmp _ _ rfl)) ?_
        refine Run.pure (dd := some 24) rfl rfl (op_move rfl (Opd.tmp _ _ rfl)) ?_
        refine Run.pure (dd := some 25) rfl rfl (op_sub rfl (Opd.tmp _ _ rfl) (Opd.const _) tI) ?_
        refine Run.pure (dd := some 26) rfl rfl (op_idx_sl0 (k - 1) rfl (Opd.tmp _ _ rfl) (Opd.tmp _ _ rfl) (by intro _; constructor <;> omega)) ?_
        refine Run.load (dd := some 27) rfl rfl (op_loadw_flat rfl (Opd.tmp _ _ rfl) tH rfl) ?_
        refine Run.pure (dd := some 28) rfl rfl (op_call_pure (fun _ => hcl0 _ _) rfl (Opd.tmp _ _ rfl) (Opds.cons _ _ _ _ (Opd.tmp _ _ rfl) (Opds.cons _ _ _ _ (Opd.tmp _ _ rfl) Opds.nil))) ?_
        refine Run.nil (FinD.mk (by kernel_rfl) ?_)
        refine nK ?_
        refine n_cond _ rfl (fun hb => ?_) (fun hb => ?_)
        · have he : eq l[k] l[k - 1] = true := hb
          rw [he, cond_true, List.append_nil, hc] at hst
          refine nK ?_
          refine s_reg rfl ?_
          refine Run.pure (dd := some 29) rfl rfl (op_move rfl (Opd.tmp _ _ rfl)) ?_
          refine Run.pure (dd := some 30) rfl rfl (op_move rfl (Opd.tmp _ _ rfl)) ?_
          refine Run.load (dd := some 31) rfl rfl (op_slice_view rfl (Opd.tmp _ _ rfl) (Bnd.yes _ _ _ _ _ (Opd.tmp _ _ rfl) tQ) (Bnd.no _) tT) ?_
          refine Run.pure (dd := some 6) rfl rfl (op_assign rfl (Opd.tmp _ _ rfl)) ?_
          refine Run.nil (FinR.mk ?_)
          refine nK ?_
          refine s_reg rfl ?_
          refine Run.pure (dd := some 7) rfl rfl (op_assign rfl (Opd.const _)) ?_
          refine Run.nil (FinR.mk ?_)
          refine nK ?_
          refine n_loop (ι := Nat × List Edg) (fun g => ([(0, .sl 0 3 0 l.length), (1, .clo gf [] []), (5, IV .i64 g.2.length), (6, .sl 0 3 k (l.length - k)), (7, IV .i64 g.1)], [(0, OE (g.2 ++ l.drop g.2.length))], 1)) (fun g => 1 ≤ g.1 ∧ k + g.1 ≤ l.length ∧ g.2 = compL eq (l.take (k + g.1))) (fun g => l.length - (k + g.1)) (1, l.take k) ⟨Nat.le_refl _, by dsimp only; omega, hst.symm⟩ ?_ ?_
          · have e1 : (l.take k).length = k := by simp; omega
            simp only [e1, List.take_append_drop, Nat.zero_add]
            refine Next.weakS [0] [] (by rfl) (by first | exact keeps0 hC _ | exact keepsN hC _ rfl) (by repeat (first | exact trivial | refine ⟨⟨_, rfl, .inl ⟨rfl, rfl⟩⟩, ?_⟩ | refine ⟨⟨_, rfl, .inl ⟨slEq rfl tN, rfl⟩⟩, ?_⟩ | refine ⟨⟨_, rfl, .inl ⟨ivEq tX, rfl⟩⟩, ?_⟩)) (by repeat (first | exact trivial | refine ⟨ent_same rfl rfl rfl tL, ?_⟩ | refine ⟨ent_same rfl rfl (rfEq rfl tU) tL, ?_⟩ | refine ⟨ent_same rfl rfl (flEq rfl (by first | (simp; done) | (simp; omega) | (simp [encE, encN, encB]; done) | simp [maxC, minC])) trivial, ?_⟩)) rfl (rel_intro)
          · intro ⟨j, c⟩ ⟨hj1, hj2, hcd⟩ K2 hK2
            simp only at hj1 hj2 hcd
            dsimp only
            have hcl := compL_len_lt eq l k (by omega) hlt he (k + j) (by omega) hj2
            rw [← hcd] at hcl
            have hkl := kept_len c l (by omega)
            refine nK ?_
            refine s_reg rfl ?_
            refine Run.pure (dd := some 32) rfl rfl (op_move rfl (Opd.tmp _ _ rfl)) ?_
            refine Run.pure (dd := some 33) rfl rfl (op_move rfl (Opd.tmp _ _ rfl)) ?_
            refine Run.pure (dd := some 34) rfl rfl (op_len_sl rfl (Opd.tmp _ _ rfl)) ?_
            refine Run.pure (dd := some 35) rfl rfl (op_lss rfl (Opd.tmp _ _ rfl) (Opd.tmp _ _ rfl)) ?_
            refine Run.nil (FinR.mk ?_)
            refine nK ?_
            refine n_cond _ rfl (fun hb => ?_) (fun hb => ?_)
            · have hjl : k + j < l.length := by simp at hb; omega
              have hst2 := compL_take eq l (k + j) (by omega) hjl
              rw [← hcd] at hst2
              have hK3 := fun c' h => hK2 (j + 1, c') ⟨by dsimp only; omega, by dsimp only; omega, h⟩ (by dsimp only; omega)
              have g1 := kept_row encE c l (k + j) (by omega) hjl
              have g2 := kept_row encE c l (k + j - 1) (by omega) (by omega)
              have g2' : ((c ++ l.drop c.length).map encE)[k + (j - 1)]? = some (encE l[k + j - 1]) := by rw [← Nat.add_sub_assoc hj1]; exact g2
              have g3 := kept_row encE c l c.length (Nat.le_refl _) (by omega)
              have hset := set_kept c l l[k + j] (by omega)
              refine nK ?_
              refine s_draw mixed ?_
              refine Run.pure (dd := some 38) rfl rfl (op_move rfl (Opd.tmp _ _ rfl)) ?_
              refine Run.pure (dd := some 39) rfl rfl (op_move rfl (Opd.tmp _ _ rfl)) ?_
              refine Run.pure (dd := some 40) rfl rfl (op_move rfl (Opd.tmp _ _ rfl)) ?_
              refine Run.pure (dd := some 41) rfl rfl (op_idx_sl j rfl (Opd.tmp _ _ rfl) (Opd.tmp _ _ rfl) (by intro _; constructor <;> omega)) ?_
              refine Run.load (dd := some 42) rfl rfl (op_loadw_flat rfl (Opd.tmp _ _ rfl) tH rfl) ?_
              refine Run.pure (dd := some 43) rfl rfl (op_move rfl (Opd.tmp _ _ rfl)) ?_
              refine Run.pure (dd := some 44) rfl rfl (op_move rfl (Opd.tmp _ _ rfl)) ?_
              refine Run.pure (dd := some 45) rfl rfl (op_sub rfl (Opd.tmp _ _ rfl) (Opd.const _) tI) ?_
              refine Run.pure (dd := some 46) rfl rfl (op_idx_sl (j - 1) rfl (Opd.tmp _ _ rfl) (Opd.tmp _ _ rfl) (by intro _; constructor <;> omega)) ?_
              refine Run.load (dd := some 47) rfl rfl (op_loadw_flat rfl (Opd.tmp _ _ rfl) tH rfl) ?_
              refine Run.pure (dd := some 48) rfl rfl (op_call_pure (fun _ => hcl0 _ _) rfl (Opd.tmp _ _ rfl) (Opds.cons _ _ _ _ (Opd.tmp _ _ rfl) (Opds.cons _ _ _ _ (Opd.tmp _ _ rfl) Opds.nil))) ?_
              refine Run.pure (dd := some 49) rfl rfl (op_not rfl (Opd.tmp _ _ rfl)) ?_
              refine Run.nil (FinD.mk (by kernel_rfl) ?_)
              refine nK ?_
              refine n_cond _ rfl (fun hb => ?_) (fun hb => ?_)
              · have hne : eq l[k + j] l[k + j - 1] = false := by simpa using hb
                rw [hne, cond_false] at hst2
                have hK4 := hK3 (c ++ [l[k + j]]) hst2.symm
                have e4 : (c ++ [l[k + j]]).length = c.length + 1 := by simp
                rw [← hset, e4] at hK4
                refine nK ?_
                refine s_reg rfl ?_
                refine Run.pure (dd := some 50) rfl rfl (op_move rfl (Opd.tmp _ _ rfl)) ?_
                refine Run.pure (dd := some 51) rfl rfl (op_move rfl (Opd.tmp _ _ rfl)) ?_
                refine Run.pure (dd := some 52) rfl rfl (op_move rfl (Opd.tmp _ _ rfl)) ?_
                refine Run.pure (dd := some 53) rfl rfl (op_move rfl (Opd.tmp _ _ rfl)) ?_
                refine Run.pure (dd := some 54) rfl rfl (op_idx_sl j rfl (Opd.tmp _ _ rfl) (Opd.tmp _ _ rfl) (by intro _; constructor <;> omega)) ?_
                refine Run.load (dd := some 55) rfl rfl (op_loadw_flat rfl (Opd.tmp _ _ rfl) tH rfl) ?_
                refine Run.pure (dd := some 56) rfl rfl (op_idx_sl0 c.length rfl (Opd.tmp _ _ rfl) (Opd.tmp _ _ rfl) (by intro _; constructor <;> omega)) ?_
                refine Run.eff (dd := none) rfl rfl (op_store_flat rfl (Opd.tmp _ _ rfl) (Opd.tmp _ _ rfl) tC rfl rfl g3 tS) ?_
                refine Run.nil (FinR.mk ?_)
                refine nK ?_
                refine s_reg rfl ?_
                refine Run.pure (dd := some 57) rfl rfl (op_move rfl (Opd.tmp _ _ rfl)) ?_
                refine Run.pure (dd := some 58) rfl rfl (op_add rfl (Opd.tmp _ _ rfl) (Opd.const _) tI) ?_
                refine Run.pure (dd := some 5) rfl rfl (op_assign rfl (Opd.tmp _ _ rfl)) ?_
                refine Run.nil (FinR.mk ?_)
                refine nK ?_
                refine s_reg rfl ?_
                refine Run.pure (dd := some 36) rfl rfl (op_move rfl (Opd.tmp _ _ rfl)) ?_
                refine Run.pure (dd := some 37) rfl rfl (op_add rfl (Opd.tmp _ _ rfl) (Opd.const _) tI) ?_
                refine Run.pure (dd := some 7) rfl rfl (op_assign rfl (Opd.tmp _ _ rfl)) ?_
                refine Run.nil (FinR.mk ?_)
                refine nK ?_
                refine Next.weakS [0] [] (by rfl) (by first | exact keeps0 hC _ | exact keepsN hC _ rfl) (by repeat (first | exact trivial | refine ⟨⟨_, rfl, .inl ⟨rfl, rfl⟩⟩, ?_⟩ | refine ⟨⟨_, rfl, .inl ⟨slEq rfl tN, rfl⟩⟩, ?_⟩ | refine ⟨⟨_, rfl, .inl ⟨ivEq tX, rfl⟩⟩, ?_⟩)) (by repeat (first | exact trivial | refine ⟨ent_same rfl rfl rfl tL, ?_⟩ | refine ⟨ent_same rfl rfl (rfEq rfl tU) tL, ?_⟩ | refine ⟨ent_same rfl rfl (flEq rfl (by first | (simp; done) | (simp; omega) | (simp [encE, encN, encB]; done) | simp [maxC, minC])) trivial, ?_⟩)) rfl (hK4)
              · have hne : eq l[k + j] l[k + j - 1] = true := by simpa using hb
                rw [hne, cond_true, List.append_nil] at hst2
                refine nK ?_
                refine s_reg rfl ?_
                refine Run.pure (dd := some 36) rfl rfl (op_move rfl (Opd.tmp _ _ rfl)) ?_
                refine Run.pure (dd := some 37) rfl rfl (op_add rfl (Opd.tmp _ _ rfl) (Opd.const _) tI) ?_
                refine Run.pure (dd := some 7) rfl rfl (op_assign rfl (Opd.tmp _ _ rfl)) ?_
                refine Run.nil (FinR.mk ?_)
                refine nK ?_
                refine Next.weakS [0] [] (by rfl) (by first | exact keeps0 hC _ | exact keepsN hC _ rfl) (by repeat (first | exact trivial | refine ⟨⟨_, rfl, .inl ⟨rfl, rfl⟩⟩, ?_⟩ | refine ⟨⟨_, rfl, .inl ⟨slEq rfl tN, rfl⟩⟩, ?_⟩ | refine ⟨⟨_, rfl, .inl ⟨ivEq tX, rfl⟩⟩, ?_⟩)) (by repeat (first | exact trivial | refine ⟨ent_same rfl rfl rfl tL, ?_⟩ | refine ⟨ent_same rfl rfl (rfEq rfl tU) tL, ?_⟩ | refine ⟨ent_same rfl rfl (flEq rfl (by first | (simp; done) | (simp; omega) | (simp [encE, encN, encB]; done) | simp [maxC, minC])) trivial, ?_⟩)) rfl ((hK3 c hst2.symm))
            · have hje : k + j = l.length := by simp at hb; omega
              rw [hje, List.take_length] at hcd
              rw [← hcd]
              refine nK ?_
              refine s_reg rfl ?_
              refine Run.pure (dd := some 59) rfl rfl (op_move rfl (Opd.tmp _ _ rfl)) ?_
              refine Run.pure (dd := some 60) rfl rfl (op_move rfl (Opd.tmp _ _ rfl)) ?_
              refine Run.load (dd := some 61) rfl rfl (op_slice_view rfl (Opd.tmp _ _ rfl) (Bnd.yes _ _ _ _ _ (Opd.tmp _ _ rfl) tQ) (Bnd.no _) (by intro _; refine ⟨rfl, ?_⟩; rw [List.length_map, hkl]; omega)) ?_
              refine Run.eff (dd := none) rfl rfl (op_clear rfl (Opd.tmp _ _ rfl) rfl rfl rfl rfl (by rw [List.length_map, hkl] <;> omega)) ?_
              refine Run.nil (FinR.mk ?_)
              refine nK ?_
              refine s_reg rfl ?_
              refine Run.pure (dd := some 62) rfl rfl (op_move rfl (Opd.tmp _ _ rfl)) ?_
              refine Run.pure (dd := some 63) rfl rfl (op_move rfl (Opd.tmp _ _ rfl)) ?_
              refine Run.load (dd := some 64) rfl rfl (op_slice_view rfl (Opd.tmp _ _ rfl) (Bnd.no _) (Bnd.yes _ _ _ _ _ (Opd.tmp _ _ rfl) tQ) (by intro _; refine ⟨rfl, ?_⟩; simp; try omega)) ?_
              refine Run.pure (dd := some 4) rfl rfl (op_assign rfl (Opd.tmp _ _ rfl)) ?_
              refine Run.nil (FinR.mk ?_)
              refine nK ?_
              refine Next.weakS [4] [4] (by rfl) (keepsN hC _ rfl) (G' := [(4, .fz (VE c))]) (H' := []) ⟨⟨_, rfl, .inr ⟨_, rfl, .sl _ _ _ _ _ _ rfl rfl (by simp) (by simp)⟩⟩, trivial⟩ trivial rfl ?_
              exact n_out1 rfl (by rfl) rfl rfl
        · have he : eq l[k] l[k - 1] = false := hb
          rw [he, cond_false, hc, ← List.take_succ_eq_append_getElem hlt] at hst
          refine nK ?_
          refine s_reg rfl ?_
          refine Run.pure (dd := some 16) rfl rfl (op_move rfl (Opd.tmp _ _ rfl)) ?_
          refine Run.pure (dd := some 17) rfl rfl (op_add rfl (Opd.tmp _ _ rfl) (Opd.const _) tI) ?_
          refine Run.pure (dd := some 5) rfl rfl (op_assign rfl (Opd.tmp _ _ rfl)) ?_
          refine Run.nil (FinR.mk ?_)
          refine nK ?_
          refine Next.weakS [0] [] (by rfl) (by first | exact keeps0 hC _ | exact keepsN hC _ rfl) (by repeat (first | exact trivial | refine ⟨⟨_, rfl, .inl ⟨rfl, rfl⟩⟩, ?_⟩ | refine ⟨⟨_, rfl, .inl ⟨slEq rfl tN, rfl⟩⟩, ?_⟩ | refine ⟨⟨_, rfl, .inl ⟨ivEq tX, rfl⟩⟩, ?_⟩)) (by repeat (first | exact trivial | refine ⟨ent_same rfl rfl rfl tL, ?_⟩ | refine ⟨ent_same rfl rfl (rfEq rfl tU) tL, ?_⟩ | refine ⟨ent_same rfl rfl (flEq rfl (by first | (simp; done) | (simp; omega) | (simp [encE, encN, encB]; done) | simp [maxC, minC])) trivial, ?_⟩)) rfl ((hK (k + 1) ⟨by omega, by omega, hst⟩ (by omega)))
      · have hie : k = l.length := by simp at hb; omega
        rw [take_len_eq' hie] at hc
        rw [hc]
        refine nK ?_
        refine s_reg rfl ?_
        refine Run.pure (dd := some 65) rfl rfl (op_move rfl (Opd.tmp _ _ rfl)) ?_
        refine Run.pure (dd := some 4) rfl rfl (op_assign rfl (Opd.tmp _ _ rfl)) ?_
        refine Run.nil (FinR.mk ?_)
        refine nK ?_
        refine Next.weakS [4] [4] (by rfl) (keepsN hC _ rfl) (G' := [(4, .fz (VE l))]) (H' := []) (by repeat (first | exact trivial | refine ⟨⟨_, rfl, .inl ⟨rfl, rfl⟩⟩, ?_⟩ | refine ⟨⟨_, rfl, .inl ⟨slEq rfl tN, rfl⟩⟩, ?_⟩ | refine ⟨⟨_, rfl, .inl ⟨ivEq tX, rfl⟩⟩, ?_⟩ | refine ⟨⟨_, rfl, .inr ⟨_, rfl, tW⟩⟩, ?_⟩)) trivial rfl ?_
        exact n_out1 rfl (by rfl) rfl rfl
open Go Go.RT Go.Proofs Go.Pl
set_option maxRecDepth 20000
theorem clone_c (l : List Edg) (hn : l.length ≤ 40000000) : Meets Try.prog 53 ([VE l].map PV.fz) 0 [] (.sl 0 3 0 l.length) [(0, OE l)] 1 := by
  refine Meets.intro Try.func53 rfl (Nat.le_of_ble_eq_true rfl) fun C hC => ?_
  simp only [List.map, argEnv, Nat.reduceAdd]
  refine nK ?_
  refine s_reg rfl ?_
  refine Run.pure (dd := some 2) rfl rfl (op_assign rfl (Opd.const _)) ?_
  refine Run.nil (FinR.mk ?_)
  refine nK ?_
  refine s_reg rfl ?_
  refine Run.pure (dd := some 3) rfl rfl (op_move rfl (Opd.tmp _ _ rfl)) ?_
  refine Run.pure (dd := some 4) rfl rfl (op_eqnil rfl (Opd.tmp _ _ rfl)) ?_
  refine Run.nil (FinR.mk ?_)
  refine nK ?_
  refine Next.abool 4 rfl (fun b hb0 => ?_)
  refine nK ?_
  refine n_cond _ rfl (fun hb => ?_) (fun hb => ?_)
  · have he : l = [] := by have := hb0 hb; simpa using this
    subst he
    refine nK ?_
    refine s_reg rfl ?_
    refine Run.pure (dd := some 2) rfl rfl (op_assign rfl (Opd.const _)) ?_
    refine Run.nil (FinR.mk ?_)
    refine nK ?_
    refine Next.adopt 2 3 rfl ?_
    (first | exact s_o1 hC rfl tV | exact s_o2 hC rfl tV tV | exact s_o3 hC rfl tV tV tV | exact s_o4 hC rfl tV tV tV tV | exact s_out0 hC rfl | exact s_outO hC rfl rfl rfl)
  · refine nK ?_
    refine s_reg rfl ?_
    refine Run.eff (dd := some 5) rfl rfl (op_buildSlice_own rfl (RowsF.nil _) rfl rfl rfl) ?_
    refine Run.pure (dd := some 6) rfl rfl (op_move rfl (Opd.tmp _ _ rfl)) ?_
    refine Run.eff (dd := some 7) rfl rfl (op_append rfl (Opd.tmp _ _ rfl) (Opd.tmp _ _ rfl) rfl rfl rfl rfl tB tB) ?_
    refine Run.pure (dd := some 2) rfl rfl (op_assign rfl (Opd.tmp _ _ rfl)) ?_
    refine Run.nil (FinR.mk ?_)
    refine nK ?_
    refine Next.weakS [2] [] (by rfl) (keeps0 hC _) (G' := [(2, .sl 0 3 0 l.length)]) (H' := [(0, OE l)]) (by repeat (first | exact trivial | refine ⟨⟨_, rfl, .inl ⟨rfl, rfl⟩⟩, ?_⟩ | refine ⟨⟨_, rfl, .inl ⟨slEq rfl tN, rfl⟩⟩, ?_⟩ | refine ⟨⟨_, rfl, .inl ⟨ivEq tX, rfl⟩⟩, ?_⟩)) (by repeat (first | exact trivial | refine ⟨ent_same rfl rfl rfl tL, ?_⟩ | refine ⟨ent_same rfl rfl (rfEq rfl tU) tL, ?_⟩ | refine ⟨ent_same rfl rfl (flEq rfl (by first | (simp; done) | (simp; omega) | (simp [encE, encN, encB]; done) | simp [maxC, minC])) trivial, ?_⟩)) rfl ?_
    (first | exact s_o1 hC rfl tV | exact s_o2 hC rfl tV tV | exact s_o3 hC rfl tV tV tV | exact s_o4 hC rfl tV tV tV tV | exact s_out0 hC rfl | exact s_outO hC rfl rfl rfl)
end Go.Proofs.Ytdhkioocjgpocaa
/- The valid graph of edges: sorted, of several edges between the same nodes the cheapest. -/
namespace Go.Pl
open Go.RT Go.Shelf Go.Proofs
set_option linter.all false
instance : Inhabited Edg := ⟨⟨0, 0, 0⟩⟩
def ordC (a b : Edg) : Int := if ordE a b ≠ 0 then ordE a b else cmpI a.c b.c
def eqK (a b : Edg) : Bool := decide (ordE a b = 0)
theorem cmpI_neg (a b : Int) : cmpI a b < 0 ↔ a < b := by unfold cmpI; split <;> (try split) <;> omega
theorem cmpI_zero (a b : Int) : cmpI a b = 0 ↔ a = b := by unfold cmpI; split <;> (try split) <;> omega
theorem ordE_neg (a b : Edg) : ordE a b < 0 ↔ a.f < b.f ∨ a.f = b.f ∧ a.t < b.t := by
  unfold ordE
  by_cases h : cmpI a.f b.f = 0
  · rw [if_neg (by simp [h]), cmpI_neg]; have := (cmpI_zero _ _).1 h; omega
  · rw [if_pos h, cmpI_neg]; have : ¬ a.f = b.f := fun e => h ((cmpI_zero _ _).2 e); omega
theorem ordE_zero (a b : Edg) : ordE a b = 0 ↔ a.f = b.f ∧ a.t = b.t := by
  unfold ordE
  by_cases h : cmpI a.f b.f = 0
  · rw [if_neg (by simp [h]), cmpI_zero]; have := (cmpI_zero _ _).1 h; omega
  · rw [if_pos h]; have : ¬ a.f = b.f := fun e => h ((cmpI_zero _ _).2 e); omega
theorem ordC_neg (a b : Edg) : ordC a b < 0 ↔ a.f < b.f ∨ a.f = b.f ∧ (a.t < b.t ∨ a.t = b.t ∧ a.c < b.c) := by
  unfold ordC
  by_cases h : ordE a b = 0
  · rw [if_neg (by simp [h]), cmpI_neg]; have := (ordE_zero _ _).1 h; omega
  · rw [if_pos h, ordE_neg]; have : ¬ (a.f = b.f ∧ a.t = b.t) := fun e => h ((ordE_zero _ _).2 e); omega
theorem eqK_iff (a b : Edg) : eqK a b = true ↔ a.f = b.f ∧ a.t = b.t := by simp [eqK, ordE_zero]
theorem ltC (a b : Edg) : ltOf ordC a b = decide (a.f < b.f ∨ a.f = b.f ∧ (a.t < b.t ∨ a.t = b.t ∧ a.c < b.c)) := by
  unfold ltOf; rw [Bool.eq_iff_iff]; simp [ordC_neg]
theorem swo_c : Go.Sort.SWO (ltOf ordC) where
  irrefl x := by rw [ltC]; simp
  trans x y z h1 h2 := by rw [ltC] at *; simp at *; omega
  ntrans x y z h1 h2 := by rw [ltC] at *; simp only [decide_eq_false_iff_not] at *; omega
def srtC (l : List Edg) : List Edg := sortBy ordC l
def ofL (l : List Edg) : List Edg := compL eqK (srtC l)
def zeroG : Gr := ⟨0, 0, []⟩
def ofF (r n : Int) (l : List Edg) : Gr × Int := if checkI ⟨r, n, ofL l⟩ ≠ 0 then (zeroG, checkI ⟨r, n, ofL l⟩) else (⟨r, n, ofL l⟩, 0)
theorem srtC_perm (l : List Edg) : (srtC l).Perm l := (sortBy_spec ordC swo_c l).1
theorem srtC_len (l : List Edg) : (srtC l).length = l.length := (sortBy_spec ordC swo_c l).2.1
def leC (a b : Edg) : Prop := a.f < b.f ∨ a.f = b.f ∧ (a.t < b.t ∨ a.t = b.t ∧ a.c ≤ b.c)
theorem srtC_sorted (l : List Edg) : (srtC l).Pairwise leC := by
  obtain ⟨_, _, h⟩ := sortBy_spec ordC swo_c l
  show (sortBy ordC l).Pairwise leC
  rw [List.pairwise_iff_getElem]
  intro i j hi hj hij
  have := h i j _ _ hij (List.getElem?_eq_getElem hi) (List.getElem?_eq_getElem hj)
  rw [ordC_neg] at this
  unfold leC
  omega
theorem ddF_sub {α : Type} (eq : α → α → Bool) : ∀ (l : List α) (p x : α), x ∈ ddF eq p l → x ∈ l
  | [], _, _, h => by simp [ddF] at h
  | y :: l, p, x, h => by
    simp only [ddF] at h
    cases he : eq y p
    · rw [he, cond_false] at h
      rcases List.mem_cons.1 h with rfl | h
      · exact List.mem_cons_self ..
      · exact List.mem_cons_of_mem _ (ddF_sub eq l y x h)
    · rw [he, cond_true] at h
      exact List.mem_cons_of_mem _ (ddF_sub eq l y x h)
theorem compL_sub {α : Type} (eq : α → α → Bool) (l : List α) (x : α) (h : x ∈ compL eq l) : x ∈ l := by
  cases l with
  | nil => simp [compL] at h
  | cons p l =>
    rcases List.mem_cons.1 h with rfl | h
    · exact List.mem_cons_self ..
    · exact List.mem_cons_of_mem _ (ddF_sub eq l p x h)
theorem ofL_sub (l : List Edg) (x : Edg) (h : x ∈ ofL l) : x ∈ l := (srtC_perm l).mem_iff.1 (compL_sub _ _ _ h)
theorem ofL_len (l : List Edg) : (ofL l).length ≤ l.length := by
  have h1 := compL_len eqK (srtC l)
  have h2 := srtC_len l
  unfold ofL; omega
theorem ofL_ok {r n : Int} {l : List Edg} (hr : inr .i64 r) (hn : inr .i64 n) (hl : okEs l) : okG ⟨r, n, ofL l⟩ := ⟨hr, hn, fun e he => hl e (ofL_sub l e he)⟩
/-- strictly ascending by their ends -/
def ltK (a b : Edg) : Prop := a.f < b.f ∨ a.f = b.f ∧ a.t < b.t
theorem ltK_bef (a b : Edg) : befB a b = true ↔ ltK a b := by simp [befB, ltK]
def AscK (l : List Edg) : Prop := l.Pairwise ltK
theorem AscK.ext : ∀ {a b : List Edg}, AscK a → AscK b → (∀ p, p ∈ a ↔ p ∈ b) → a = b
  | [], [], _, _, _ => rfl
  | [], y :: b, _, _, h => by have := (h y).2 (List.mem_cons_self ..); cases this
  | x :: a, [], _, _, h => by have := (h x).1 (List.mem_cons_self ..); cases this
  | x :: a, y :: b, ha, hb, h => by
    obtain ⟨a1, a2⟩ := List.pairwise_cons.1 ha
    obtain ⟨b1, b2⟩ := List.pairwise_cons.1 hb
    have e : x = y := by
      rcases List.mem_cons.1 ((h x).1 (List.mem_cons_self ..)) with e | h1
      · exact e
      · rcases List.mem_cons.1 ((h y).2 (List.mem_cons_self ..)) with e | h2
        · exact e.symm
        · have := b1 x h1; have := a1 y h2; unfold ltK at *; omega
    subst e
    refine congrArg _ (AscK.ext a2 b2 fun p => ?_)
    constructor
    · intro hp
      rcases List.mem_cons.1 ((h p).1 (List.mem_cons_of_mem _ hp)) with e | h1
      · subst e; have := a1 p hp; unfold ltK at *; omega
      · exact h1
    · intro hp
      rcases List.mem_cons.1 ((h p).2 (List.mem_cons_of_mem _ hp)) with e | h1
      · subst e; have := b1 p hp; unfold ltK at *; omega
      · exact h1
/-- the cheapest edge of each pair of ends, ascending -/
structure Least (l s : List Edg) : Prop where
  asc : AscK s
  sub : ∀ e ∈ s, e ∈ l
  min : ∀ e ∈ s, ∀ e' ∈ l, e'.f = e.f → e'.t = e.t → e.c ≤ e'.c
  all : ∀ e' ∈ l, ∃ e ∈ s, e.f = e'.f ∧ e.t = e'.t
theorem Least.uniq {l a b : List Edg} (ha : Least l a) (hb : Least l b) : a = b := by
  have key : ∀ {a b : List Edg}, Least l a → Least l b → ∀ p, p ∈ a → p ∈ b := fun {a b} ha hb p hp => by
    obtain ⟨q, hq, h1, h2⟩ := hb.all p (ha.sub p hp)
    have := ha.min p hp q (hb.sub q hq) h1 h2
    have := hb.min q hq p (ha.sub p hp) h1.symm h2.symm
    have : p = q := by cases p; cases q; simp only [Edg.mk.injEq]; simp only at *; omega
    rw [this]; exact hq
  exact AscK.ext ha.asc hb.asc fun p => ⟨key ha hb p, key hb ha p⟩
theorem ddF_least : ∀ (l : List Edg) (p : Edg) (q : Edg), (p :: l).Pairwise leC → q.f = p.f → q.t = p.t → q.c ≤ p.c → (∀ e ∈ l, leC q e) → Least (q :: l) (q :: ddF eqK p l)
  | [], p, q, _, _, _, _, _ => ⟨by simp [AscK, ddF], fun e he => by simpa [ddF] using he, fun e he e' he' _ _ => by simp [ddF] at he he'; subst he; subst he'; exact Int.le_refl _, fun e' he' => ⟨e', by simpa [ddF] using he', rfl, rfl⟩⟩
  | y :: l, p, q, h, q1, q2, q3, hq => by
    obtain ⟨h1, h2⟩ := List.pairwise_cons.1 h
    have hy := h1 y (List.mem_cons_self ..)
    have hqy := hq y (List.mem_cons_self ..)
    simp only [ddF]
    cases he : eqK y p with
    | true =>
      rw [cond_true]
      have hk := (eqK_iff y p).1 he
      have ih := ddF_least l y q h2 (by omega) (by omega) (by unfold leC at hqy; omega) (fun e hel => hq e (List.mem_cons_of_mem _ hel))
      refine ⟨ih.asc, fun e hel => ?_, fun e hel e' hel' g1 g2 => ?_, fun e' hel' => ?_⟩
      · rcases List.mem_cons.1 (ih.sub e hel) with rfl | h
        · exact List.mem_cons_self ..
        · exact List.mem_cons_of_mem _ (List.mem_cons_of_mem _ h)
      · rcases List.mem_cons.1 hel' with rfl | h
        · exact ih.min e hel e' (List.mem_cons_self ..) g1 g2
        · rcases List.mem_cons.1 h with rfl | h
          · -- y itself: the same ends as q
            have := ih.min e hel q (List.mem_cons_self ..) (by omega) (by omega)
            unfold leC at hqy; omega
          · exact ih.min e hel e' (List.mem_cons_of_mem _ h) g1 g2
      · rcases List.mem_cons.1 hel' with rfl | h
        · exact ih.all e' (List.mem_cons_self ..)
        · rcases List.mem_cons.1 h with rfl | h
          · exact ⟨q, List.mem_cons_self .., by omega, by omega⟩
          · exact ih.all e' (List.mem_cons_of_mem _ h)
    | false =>
      rw [cond_false]
      have hk : ¬ (y.f = p.f ∧ y.t = p.t) := fun hh => by rw [(eqK_iff y p).2 hh] at he; cases he
      have ih := ddF_least l y y h2 rfl rfl (Int.le_refl _) (fun e hel => (List.pairwise_cons.1 h2).1 e hel)
      have hlt : ltK q y := by unfold leC at hy; unfold ltK; omega
      have hall : ∀ e ∈ y :: l, ltK q e := fun e hel => by
        rcases List.mem_cons.1 hel with rfl | h
        · exact hlt
        · have := (List.pairwise_cons.1 h2).1 e h
          unfold leC at this; unfold ltK at *; omega
      refine ⟨List.pairwise_cons.2 ⟨fun e hel => hall e (ih.sub e hel), ih.asc⟩, fun e hel => ?_, fun e hel e' hel' g1 g2 => ?_, fun e' hel' => ?_⟩
      · rcases List.mem_cons.1 hel with rfl | h
        · exact List.mem_cons_self ..
        · exact List.mem_cons_of_mem _ (ih.sub e h)
      · rcases List.mem_cons.1 hel with rfl | h
        · rcases List.mem_cons.1 hel' with rfl | h'
          · exact Int.le_refl _
          · have := hall e' h'; unfold ltK at this; omega
        · rcases List.mem_cons.1 hel' with rfl | h'
          · have := hall e (ih.sub e h); unfold ltK at this; omega
          · exact ih.min e h e' h' g1 g2
      · rcases List.mem_cons.1 hel' with rfl | h
        · exact ⟨e', List.mem_cons_self .., rfl, rfl⟩
        · obtain ⟨e, he1, he2⟩ := ih.all e' h
          exact ⟨e, List.mem_cons_of_mem _ he1, he2⟩
theorem ofL_least (l : List Edg) : Least l (ofL l) := by
  have hp := srtC_perm l
  have hs := srtC_sorted l
  unfold ofL
  generalize srtC l = s at *
  have main : Least s (compL eqK s) := by
    cases s with
    | nil => exact ⟨by simp [AscK, compL], by simp [compL], by simp [compL], by simp⟩
    | cons x s => exact ddF_least s x x hs rfl rfl (Int.le_refl _) (fun e he => (List.pairwise_cons.1 hs).1 e he)
  exact ⟨main.asc, fun e he => hp.mem_iff.1 (main.sub e he), fun e he e' he' => main.min e he e' (hp.mem_iff.2 he'), fun e' he' => main.all e' (hp.mem_iff.2 he')⟩
end Go.Pl
namespace Go.Proofs.Ytdhkioocjgpocaa
open Go Go.RT Go.Proofs Go.Pl
set_option linter.all false
set_option maxRecDepth 20000
theorem ofcmp_c (a b : Edg) : Pure Try.prog 55 [.agg (encE a), .agg (encE b)] (If .i64 (ordC a b)) := by
  have e : ordC a b = orI [ordE a b, cmpI a.c b.c] := by
    unfold ordC
    simp only [orI]
    by_cases h : ordE a b = 0
    · by_cases h2 : cmpI a.c b.c = 0 <;> simp [h, h2]
    · simp [h]
  have ho := or_c [ordE a b, cmpI a.c b.c] (by simp)
  rw [← e] at ho
  refine Meets.intro Try.func55 rfl (Nat.le_of_ble_eq_true rfl) fun C hC => ?_
  simp only [List.map, argEnv, Nat.reduceAdd]
  refine nK ?_
  refine s_reg rfl ?_
  refine Run.eff (dd := some 2) rfl rfl (op_box_flat rfl (Opd.tmp _ _ rfl) tC rfl) ?_
  refine Run.eff (dd := some 3) rfl rfl (op_box_flat rfl (Opd.tmp _ _ rfl) tC rfl) ?_
  refine Run.pure (dd := some 4) rfl rfl (op_assign rfl (Opd.const _)) ?_
  refine Run.nil (FinR.mk ?_)
  refine nK ?_
  refine s_draw mixed ?_
  refine Run.load (dd := some 5) rfl rfl (op_loadw_flat rfl (Opd.tmp _ _ rfl) tH rfl) ?_
  refine Run.load (dd := some 6) rfl rfl (op_loadw_flat rfl (Opd.tmp _ _ rfl) tH rfl) ?_
  refine Run.pure (dd := some 7) rfl rfl (op_call_pure (fun _ => order_c _ _) rfl (Opd.func _) (Opds.cons _ _ _ _ (Opd.tmp _ _ rfl) (Opds.cons _ _ _ _ (Opd.tmp _ _ rfl) Opds.nil))) ?_
  refine Run.pure (dd := some 8) rfl rfl (op_fld_ptr (by decide) rfl (Opd.tmp _ _ rfl)) ?_
  refine Run.load (dd := some 9) rfl rfl (op_load1_flat rfl (Opd.tmp _ _ rfl) tH rfl) ?_
  refine Run.pure (dd := some 10) rfl rfl (op_fld_ptr (by decide) rfl (Opd.tmp _ _ rfl)) ?_
  refine Run.load (dd := some 11) rfl rfl (op_load1_flat rfl (Opd.tmp _ _ rfl) tH rfl) ?_
  refine Run.pure (dd := some 12) rfl rfl (op_call_pure (fun _ => cmp_c _ _) rfl (Opd.func _) (Opds.cons _ _ _ _ (Opd.tmp _ _ rfl) (Opds.cons _ _ _ _ (Opd.tmp _ _ rfl) Opds.nil))) ?_
  refine Run.pure (dd := some 13) rfl rfl (op_buildSlice_fz rfl (RowsF.cons _ _ _ _ _ _ (Opd.tmp _ _ rfl) tC (by rfl) (RowsF.cons _ _ _ _ _ _ (Opd.tmp _ _ rfl) tC (by rfl) (RowsF.nil _))) rfl rfl) ?_
  refine Run.pure (dd := some 14) rfl rfl (op_call_pure (fun _ => ho) rfl (Opd.func _) (Opds.cons _ _ _ _ (Opd.tmp _ _ rfl) Opds.nil)) ?_
  refine Run.pure (dd := some 4) rfl rfl (op_assign rfl (Opd.tmp _ _ rfl)) ?_
  refine Run.nil (FinD.mk (by kernel_rfl) ?_)
  refine nK ?_
  (first | exact s_o1 hC rfl tV | exact s_o2 hC rfl tV tV | exact s_o3 hC rfl tV tV tV | exact s_o4 hC rfl tV tV tV tV | exact s_out0 hC rfl | exact s_outO hC rfl rfl rfl)
theorem ofeq_c (a b : Edg) : Pure Try.prog 60 [.agg (encE a), .agg (encE b)] (Bf (eqK a b)) := by
  refine Meets.intro Try.func60 rfl (Nat.le_of_ble_eq_true rfl) fun C hC => ?_
  simp only [List.map, argEnv, Nat.reduceAdd]
  refine nK ?_
  refine s_reg rfl ?_
  refine Run.eff (dd := some 2) rfl rfl (op_box_flat rfl (Opd.tmp _ _ rfl) tC rfl) ?_
  refine Run.eff (dd := some 3) rfl rfl (op_box_flat rfl (Opd.tmp _ _ rfl) tC rfl) ?_
  refine Run.pure (dd := some 4) rfl rfl (op_assign rfl (Opd.const _)) ?_
  refine Run.nil (FinR.mk ?_)
  refine nK ?_
  refine s_reg rfl ?_
  refine Run.load (dd := some 5) rfl rfl (op_loadw_flat rfl (Opd.tmp _ _ rfl) tH rfl) ?_
  refine Run.load (dd := some 6) rfl rfl (op_loadw_flat rfl (Opd.tmp _ _ rfl) tH rfl) ?_
  refine Run.pure (dd := some 7) rfl rfl (op_call_pure (fun _ => order_c _ _) rfl (Opd.func _) (Opds.cons _ _ _ _ (Opd.tmp _ _ rfl) (Opds.cons _ _ _ _ (Opd.tmp _ _ rfl) Opds.nil))) ?_
  refine Run.pure (dd := some 8) rfl rfl (op_eql rfl (Opd.tmp _ _ rfl) (Opd.const _)) ?_
  refine Run.pure (dd := some 4) rfl rfl (op_assign rfl (Opd.tmp _ _ rfl)) ?_
  refine Run.nil (FinR.mk ?_)
  refine nK ?_
  (first | exact s_o1 hC rfl tV | exact s_o2 hC rfl tV tV | exact s_o3 hC rfl tV tV tV | exact s_o4 hC rfl tV tV tV tV | exact s_out0 hC rfl | exact s_outO hC rfl rfl rfl)
def vE (e : Edg) : List Value := [.int .i64 e.f, .int .i64 e.t, .int .i64 e.c]
theorem sorte_c (l : List Edg) (hn : l.length ≤ 40000000) : Meets Try.prog 54 [.sl 0 3 0 l.length, .clo 55 [] []] 1 [(0, OE l)] (.fz (.tup [])) [(0, OE (srtC l))] 1 :=
  sort_meets (ρ := Try.sortEdge_ren) Try.sortEdge (k := 3) (by decide) (fun w => run_isAgg (t := 41) inferInstance w) (fun w => run_size (t := 41) inferInstance w) (ev := vE) (fun _ => rfl) (fun x v hv => by simp [vE] at hv; rcases hv with rfl | rfl | rfl <;> rfl) swo_c (g := 55) (enters_of Try.func55 (by kernel_rfl) rfl) (fun x y => ofcmp_c x y) (l := l) (by omega)
theorem of_c (r n : Int) (l : List Edg) (hr : inr .i64 r) (hn : inr .i64 n) (hl : okEs l) (hle : l.length ≤ 40000000) : Pure Try.prog 29 [If .i64 r, If .i64 n, VE l] (.tup [.agg (encG (ofF r n l).1), If .i64 (ofF r n l).2]) := by
  have hok := ofL_ok hr hn hl
  have hcl := clone_c l hle
  have hso := sorte_c l hle
  have hsl := srtC_len l
  have hco := compactF_c (srtC l) (by omega) 60 eqK (fun x y => ofeq_c x y)
  rw [hsl] at hco
  refine Meets.intro Try.func29 rfl (Nat.le_of_ble_eq_true rfl) fun C hC => ?_
  simp only [List.map, argEnv, Nat.reduceAdd]
  refine nK ?_
  refine s_reg rfl ?_
  refine Run.eff (dd := some 6) rfl rfl (op_alloc rfl rfl rfl rfl) ?_
  refine Run.pure (dd := some 7) rfl rfl (op_assign rfl (Opd.const _)) ?_
  refine Run.nil (FinR.mk ?_)
  refine nK ?_
  refine s_reg rfl ?_
  refine Run.pure (dd := some 10) rfl rfl (op_move rfl (Opd.tmp _ _ rfl)) ?_
  refine Run.pure (dd := some 11) rfl rfl (op_move rfl (Opd.tmp _ _ rfl)) ?_
  refine Run.pure (dd := some 12) rfl rfl (op_move rfl (Opd.tmp _ _ rfl)) ?_
  refine Run.eff (dd := some 13) rfl rfl (op_call_fresh (fun _ => hcl) rfl (Opd.func _) (Opds.cons _ _ _ _ (Opd.tmp _ _ rfl) Opds.nil)) ?_
  refine Run.pure (dd := some 14) rfl rfl (op_buildP rfl rfl rfl rfl (FillP.cons _ _ _ _ _ _ _ _ _ _ (by rfl) (Opd.tmp _ _ rfl) tP (by rfl) tR (FillP.cons _ _ _ _ _ _ _ _ _ _ (by rfl) (Opd.tmp _ _ rfl) tP (by rfl) tR (FillP.cons _ _ _ _ _ _ _ _ _ _ (by rfl) (Opd.tmp _ _ rfl) tP (by rfl) tR (FillP.nil _))))) ?_
  refine Run.eff (dd := some 8) rfl rfl (op_allocP rfl rfl rfl rfl rfl) ?_
  refine Run.eff (dd := none) rfl rfl (op_store_refs rfl (Opd.tmp _ _ rfl) (Opd.tmp _ _ rfl) tP rfl rfl rfl tS) ?_
  refine Run.nil (FinR.mk ?_)
  refine nK ?_
  refine nK ?_
  refine s_reg rfl ?_
  refine Run.pure (dd := some 15) rfl rfl (op_fld_ptr (by decide) rfl (Opd.tmp _ _ rfl)) ?_
  refine Run.load (dd := some 16) rfl rfl (op_load1_refs rfl (Opd.tmp _ _ rfl) tH rfl) ?_
  refine Run.eff (dd := some 17) rfl rfl (op_call (n := 1) (n' := 1) [1] (fun _ => hso) rfl (Opd.func _) (Opds.cons _ _ _ _ (Opd.tmp _ _ rfl) (Opds.cons _ _ _ _ (Opd.func _) Opds.nil)) rfl rfl (Lent.of rfl rfl (by repeat (first | exact trivial | refine ⟨⟨rfl, rfl, rfl, tL⟩, ?_⟩)) rfl) rfl rfl rfl rfl rfl) ?_
  refine Run.nil (FinR.mk ?_)
  refine nK ?_
  refine s_reg rfl ?_
  refine Run.pure (dd := some 18) rfl rfl (op_fld_ptr (by decide) rfl (Opd.tmp _ _ rfl)) ?_
  refine Run.load (dd := some 19) rfl rfl (op_load1_refs rfl (Opd.tmp _ _ rfl) tH rfl) ?_
  refine Run.eff (dd := some 20) rfl rfl (op_call (n := 1) (n' := 1) [1] (fun _ => hco) rfl (Opd.func _) (Opds.cons _ _ _ _ (Opd.tmp _ _ rfl) (Opds.cons _ _ _ _ (Opd.func _) Opds.nil)) rfl rfl (Lent.of rfl rfl (by repeat (first | exact trivial | refine ⟨⟨rfl, rfl, rfl, tL⟩, ?_⟩)) rfl) rfl rfl rfl rfl rfl) ?_
  refine Run.pure (dd := some 21) rfl rfl (op_fld_ptr (by decide) rfl (Opd.tmp _ _ rfl)) ?_
  refine Run.eff (dd := none) rfl rfl (op_store_refs rfl (Opd.tmp _ _ rfl) (Opd.tmp _ _ rfl) tP rfl rfl rfl tS) ?_
  refine Run.nil (FinR.mk ?_)
  refine nK ?_
  have hzz : encG zeroG = [If .i64 0, If .i64 0, .vals 3 []] := rfl
  unfold ofF
  refine Next.weakS [6, 8] [] (by rfl) (keeps0 hC _) (G' := [(6, .ptr 0 3 0 0), (8, .ptr 1 3 0 0)]) (H' := [(0, OG zeroG), (1, OG ⟨r, n, ofL l⟩)]) (by repeat (first | exact trivial | refine ⟨⟨_, rfl, .inl ⟨rfl, rfl⟩⟩, ?_⟩ | refine ⟨⟨_, rfl, .inl ⟨slEq rfl tN, rfl⟩⟩, ?_⟩ | refine ⟨⟨_, rfl, .inl ⟨ivEq tX, rfl⟩⟩, ?_⟩)) ⟨⟨rfl, rfl, .fflat _ _ _ rfl tW⟩, ⟨⟨rfl, rfl, .flat _ _ _ rfl tW⟩, trivial⟩⟩ rfl ?_
  refine nK ?_
  refine s_reg rfl ?_
  refine Run.load (dd := some 22) rfl rfl (op_loadw_flat rfl (Opd.tmp _ _ rfl) tH rfl) ?_
  refine Run.pure (dd := some 23) rfl rfl (op_call_pure (fun _ => check_c _ (by assumption)) rfl (Opd.func _) (Opds.cons _ _ _ _ (Opd.tmp _ _ rfl) Opds.nil)) ?_
  refine Run.pure (dd := some 9) rfl rfl (op_assign rfl (Opd.tmp _ _ rfl)) ?_
  refine Run.nil (FinR.mk ?_)
  refine nK ?_
  refine s_reg rfl ?_
  refine Run.pure (dd := some 24) rfl rfl (op_move rfl (Opd.tmp _ _ rfl)) ?_
  refine Run.pure (dd := some 25) rfl rfl (op_neq rfl (Opd.tmp _ _ rfl) (Opd.const _)) ?_
  refine Run.nil (FinR.mk ?_)
  refine nK ?_
  refine n_cond _ rfl (fun hb => ?_) (fun hb => ?_)
  · rw [if_pos (by simpa using hb)]
    refine nK ?_
    refine s_reg rfl ?_
    refine Run.pure (dd := some 26) rfl rfl (op_build rfl rfl rfl (FillF.nil _)) ?_
    refine Run.pure (dd := some 27) rfl rfl (op_move rfl (Opd.tmp _ _ rfl)) ?_
    refine Run.eff (dd := none) rfl rfl (op_store_flat rfl (Opd.tmp _ _ rfl) (Opd.tmp _ _ rfl) tC rfl rfl (by first | rfl | assumption) tS) ?_
    refine Run.pure (dd := some 7) rfl rfl (op_assign rfl (Opd.tmp _ _ rfl)) ?_
    refine Run.nil (FinR.mk ?_)
    refine nK ?_
    refine Next.weakS [6] [] (by rfl) (keeps0 hC _) (G' := [(6, .ptr 0 3 0 0), (7, IV .i64 (checkI ⟨r, n, ofL l⟩))]) (H' := [(0, OG zeroG)]) (by repeat (first | exact trivial | refine ⟨⟨_, rfl, .inl ⟨rfl, rfl⟩⟩, ?_⟩ | refine ⟨⟨_, rfl, .inl ⟨slEq rfl tN, rfl⟩⟩, ?_⟩ | refine ⟨⟨_, rfl, .inl ⟨ivEq tX, rfl⟩⟩, ?_⟩)) ⟨⟨rfl, rfl, .fflat _ _ _ rfl tW⟩, trivial⟩ rfl ?_
    (first | exact s_o1 hC rfl tV | exact s_o2 hC rfl tV tV | exact s_o3 hC rfl tV tV tV | exact s_o4 hC rfl tV tV tV tV | exact s_out0 hC rfl | exact s_outO hC rfl rfl rfl)
  · rw [if_neg (by simpa using hb)]
    refine nK ?_
    refine s_reg rfl ?_
    refine Run.load (dd := some 28) rfl rfl (op_loadw_flat rfl (Opd.tmp _ _ rfl) tH rfl) ?_
    refine Run.eff (dd := none) rfl rfl (op_store_flat rfl (Opd.tmp _ _ rfl) (Opd.tmp _ _ rfl) tC rfl rfl (by first | rfl | assumption) tS) ?_
    refine Run.pure (dd := some 7) rfl rfl (op_assign rfl (Opd.const _)) ?_
    refine Run.nil (FinR.mk ?_)
    refine nK ?_
    (first | exact s_o1 hC rfl tV | exact s_o2 hC rfl tV tV | exact s_o3 hC rfl tV tV tV | exact s_o4 hC rfl tV tV tV tV | exact s_out0 hC rfl | exact s_outO hC rfl rfl rfl)
end Go.Proofs.Ytdhkioocjgpocaa
/- Which nodes can be reached. -/
namespace Go.Pl
open Go.RT
set_option linter.all false
inductive Rch (l : List Edg) (a : Int) : Int → Prop where
  | here : Rch l a a
  | step (e : Edg) : e ∈ l → Rch l a e.f → Rch l a e.t
open Classical in
theorem checkI_ok {g : Gr} (h : checkI g = 0) : szOk g ∧ g.es.length ≤ 1024 ∧ chkL g none g.es = 0 := by
  unfold checkI at h
  by_cases h1 : sizeI g = 0
  · rw [if_neg (by simp [h1])] at h
    exact ⟨(sizeI_ok h1).1, (sizeI_ok h1).2, h⟩
  · rw [if_pos h1] at h; exact absurd h h1
/-- how many are marked -/
def cntT (l : List Bool) : Nat := l.countP (· == true)
theorem cntT_set {l : List Bool} {v : Nat} (h : l[v]? = some false) : cntT (l.set v true) = cntT l + 1 := by
  obtain ⟨hv, he⟩ := List.getElem?_eq_some_iff.1 h
  induction l generalizing v with
  | nil => simp at hv
  | cons x l ih =>
    cases v with
    | zero => simp at he; subst he; simp [cntT]
    | succ v =>
      have hv2 : v < l.length := by simpa using hv
      have := ih (by simpa using h) hv2 (by simpa using he)
      unfold cntT at *
      simp only [List.set_cons_succ, List.countP_cons, this]; omega
open Go.RT
open Classical in
/-- what the search knows -/
structure Bfs (g : Gr) (a : Int) (out : List Bool) (l : List Int) (i : Nat) : Prop where
  len : out.length = (g.r + g.n).toNat
  from_ : out[a.toNat]? = some true
  i_le : i ≤ l.length
  mem : ∀ x ∈ l, 0 ≤ x ∧ x < g.r + g.n ∧ out[x.toNat]? = some true ∧ Rch g.es a x
  all : ∀ v : Nat, out[v]? = some true → (v : Int) ∈ l
  cnt : l.length = cntT out
  done : ∀ x ∈ l.take i, ∀ e ∈ g.es, e.f = x → out[e.t.toNat]? = some true
theorem set_true {out : List Bool} {v w : Nat} (h : out[w]? = some true) : (out.set v true)[w]? = some true := by
  rw [List.getElem?_set]
  obtain ⟨h1, _⟩ := List.getElem?_eq_some_iff.1 h
  split
  · rename_i e; subst e; rw [if_pos h1]
  · exact h
theorem Bfs.next {g : Gr} {a : Int} {out : List Bool} {l : List Int} {i : Nat} (h : Bfs g a out l i) {x : Int} (hx : l[i]? = some x) (hd : ∀ y ∈ nextI x g.es, out[y.toNat]? = some true) : Bfs g a out l (i + 1) := by
  obtain ⟨hi, hxe⟩ := List.getElem?_eq_some_iff.1 hx
  refine ⟨h.len, h.from_, hi, h.mem, h.all, h.cnt, fun y hy e he1 he2 => ?_⟩
  rw [List.take_succ_eq_append_getElem hi] at hy
  rcases List.mem_append.1 hy with hy | hy
  · exact h.done y hy e he1 he2
  · have : y = x := by simpa [hxe] using hy
    exact hd e.t (((nextI_spec x g.es).2 e.t).2 ⟨e, he1, by omega, rfl⟩)
theorem Bfs.start {g : Gr} {k : Nat} (hk : (k : Int) < g.r + g.n) : Bfs g k ((List.replicate (g.r + g.n).toNat false).set k true) [(k : Int)] 0 := by
  have hf : (List.replicate (g.r + g.n).toNat false)[k]? = some false := by rw [List.getElem?_replicate, if_pos (by omega)]
  have h0 : cntT (List.replicate (g.r + g.n).toNat false) = 0 := by
    unfold cntT; rw [List.countP_eq_zero]; intro b hb; rw [List.eq_of_mem_replicate hb]; simp
  have hkk : ((List.replicate (g.r + g.n).toNat false).set k true)[k]? = some true := by rw [List.getElem?_set, if_pos rfl, if_pos (by simp; omega)]
  refine ⟨by simp, by simpa using hkk, by simp, fun x hx => ?_, fun v hv => ?_, by rw [cntT_set hf, h0]; rfl, fun x hx => by simp at hx⟩
  · have : x = k := by simpa using hx
    subst this
    exact ⟨by omega, hk, by simpa using hkk, .here⟩
  · rw [List.getElem?_set] at hv
    split at hv
    · rename_i e; subst e; simp
    · rw [List.getElem?_replicate] at hv; split at hv <;> simp at hv
end Go.Pl
/- The reference's search: passes over all edges. -/
namespace Go.Pl
open Go.RT
set_option linter.all false
/-- one edge of a pass -/
def passE (out : List Bool) (e : Edg) : List Bool := if out[e.f.toNat]? = some true then out.set e.t.toNat true else out
def pass (es : List Edg) (out : List Bool) : List Bool := es.foldl passE out
theorem passE_len (out : List Bool) (e : Edg) : (passE out e).length = out.length := by unfold passE; split <;> simp
theorem pass_len : ∀ (es : List Edg) (out : List Bool), (pass es out).length = out.length
  | [], out => rfl
  | e :: es, out => by
    show (pass es (passE out e)).length = _
    rw [pass_len es, passE_len]
theorem passE_mono {out : List Bool} {e : Edg} {v : Nat} (h : out[v]? = some true) : (passE out e)[v]? = some true := by
  unfold passE; split
  · exact set_true h
  · exact h
theorem pass_mono : ∀ {es : List Edg} {out : List Bool} {v : Nat}, out[v]? = some true → (pass es out)[v]? = some true
  | [], out, v, h => h
  | e :: es, out, v, h => pass_mono (es := es) (passE_mono h)
theorem cntT_cons (x : Bool) (l : List Bool) : cntT (x :: l) = cntT l + if x = true then 1 else 0 := by
  unfold cntT; rw [List.countP_cons]; cases x <;> rfl
theorem cnt_mono : ∀ {a b : List Bool}, a.length = b.length → (∀ v : Nat, a[v]? = some true → b[v]? = some true) → cntT a ≤ cntT b ∧ (cntT a = cntT b → a = b)
  | [], [], _, _ => ⟨Nat.le_refl _, fun _ => rfl⟩
  | [], _ :: _, h, _ => by simp at h
  | _ :: _, [], h, _ => by simp at h
  | x :: a, y :: b, hl, h => by
    obtain ⟨i1, i2⟩ := cnt_mono (a := a) (b := b) (by simpa using hl) (fun v hv => by simpa using h (v + 1) (by simpa using hv))
    have h0 := h 0
    simp only [List.getElem?_cons_zero, Option.some.injEq] at h0
    rw [cntT_cons, cntT_cons]
    cases x <;> cases y
    · exact ⟨by simpa using i1, fun hh => by rw [i2 (by simpa using hh)]⟩
    · exact ⟨by simp; omega, fun hh => by simp at hh; omega⟩
    · simp at h0
    · exact ⟨by simpa using i1, fun hh => by rw [i2 (by simpa using hh)]⟩
/-- a pass that changes nothing: closed under the edges -/
theorem pass_fix : ∀ {es : List Edg} {out : List Bool}, pass es out = out → (∀ e ∈ es, 0 ≤ e.t ∧ e.t.toNat < out.length) → ∀ e ∈ es, out[e.f.toNat]? = some true → out[e.t.toNat]? = some true := by
  intro es out h hin
  -- every prefix of the pass leaves the list as it is
  have key : ∀ (es : List Edg) (out o : List Bool), o.length = out.length → (∀ v : Nat, out[v]? = some true → o[v]? = some true) → pass es o = out → (∀ e ∈ es, 0 ≤ e.t ∧ e.t.toNat < out.length) → o = out ∧ ∀ e ∈ es, out[e.f.toNat]? = some true → out[e.t.toNat]? = some true := by
    intro es
    induction es with
    | nil => intro out o _ _ h _; exact ⟨h, fun e he => by cases he⟩
    | cons e es ih =>
      intro out o hl hm hp hin
      have hp' : pass es (passE o e) = out := hp
      obtain ⟨i1, i2⟩ := ih out (passE o e) (by rw [passE_len]; exact hl) (fun v hv => passE_mono (hm v hv)) hp' (fun e' he' => hin e' (List.mem_cons_of_mem _ he'))
      have hle : ∀ v : Nat, o[v]? = some true → out[v]? = some true := fun v hv => by rw [← i1]; exact passE_mono hv
      have hoe : o = out := by
        have c1 := (cnt_mono hl hle)
        have c2 := (cnt_mono hl.symm hm)
        exact c1.2 (Nat.le_antisymm c1.1 c2.1)
      refine ⟨hoe, fun e' he' hf => ?_⟩
      rcases List.mem_cons.1 he' with rfl | he'
      · subst hoe
        unfold passE at i1
        rw [if_pos hf] at i1
        have := hin e' (List.mem_cons_self ..)
        rw [← i1, List.getElem?_set, if_pos rfl, if_pos this.2]
      · exact i2 e' he' hf
  exact (key es out out rfl (fun v h => h) h hin).2
/-- what the passes keep -/
structure Pas (g : Gr) (a : Int) (out : List Bool) : Prop where
  len : out.length = (g.r + g.n).toNat
  from_ : out[a.toNat]? = some true
  sound : ∀ v : Nat, out[v]? = some true → Rch g.es a (v : Int)
theorem Pas.stepE {g : Gr} {a : Int} {out : List Bool} {e : Edg} (h : Pas g a out) (he : e ∈ g.es) (h0 : 0 ≤ e.f ∧ 0 ≤ e.t) : Pas g a (passE out e) := by
  refine ⟨by rw [passE_len]; exact h.len, passE_mono h.from_, fun v hv => ?_⟩
  unfold passE at hv
  split at hv
  · rename_i hf
    rw [List.getElem?_set] at hv
    split at hv
    · rename_i e2
      have := h.sound _ hf
      rw [Int.toNat_of_nonneg h0.1] at this
      rw [← e2, Int.toNat_of_nonneg h0.2]
      exact .step e he this
    · exact h.sound v hv
  · exact h.sound v hv
theorem Pas.pass {g : Gr} {a : Int} : ∀ {es : List Edg} {out : List Bool}, Pas g a out → (∀ e ∈ es, e ∈ g.es ∧ 0 ≤ e.f ∧ 0 ≤ e.t) → Pas g a (Pl.pass es out)
  | [], out, h, _ => h
  | e :: es, out, h, he => Pas.pass (es := es) (h.stepE (he e (List.mem_cons_self ..)).1 (he e (List.mem_cons_self ..)).2) (fun e' h' => he e' (List.mem_cons_of_mem _ h'))
/-- after k passes: closed, or more than k nodes marked -/
def Far (g : Gr) (out : List Bool) (k : Nat) : Prop := (∀ e ∈ g.es, out[e.f.toNat]? = some true → out[e.t.toNat]? = some true) ∨ k + 1 ≤ cntT out
theorem Far.next {g : Gr} {out : List Bool} {k : Nat} (h : Far g out k) (hin : ∀ e ∈ g.es, 0 ≤ e.t ∧ e.t.toNat < out.length) : Far g (pass g.es out) (k + 1) := by
  by_cases hf : pass g.es out = out
  · rw [hf]; exact .inl (pass_fix hf hin)
  · have hc := cnt_mono (a := out) (b := pass g.es out) (pass_len _ _).symm (fun v => pass_mono)
    have hlt : cntT out < cntT (pass g.es out) := by
      rcases Nat.lt_or_ge (cntT out) (cntT (pass g.es out)) with h1 | h1
      · exact h1
      · exact absurd (hc.2 (by omega)).symm hf
    rcases h with h | h
    · -- closed already: a pass changes nothing
      exfalso
      apply hf
      have : ∀ (es : List Edg), (∀ e ∈ es, e ∈ g.es) → pass es out = out := by
        intro es
        induction es with
        | nil => exact fun _ => rfl
        | cons e es ih =>
          intro hes
          have hee := hes e (List.mem_cons_self ..)
          have he : passE out e = out := by
            unfold passE
            split
            · rename_i ht
              have hh := h e hee ht
              obtain ⟨q1, q2⟩ := List.getElem?_eq_some_iff.1 hh
              rw [← q2]; exact List.set_getElem_self q1
            · rfl
          show pass es (passE out e) = out
          rw [he]; exact ih fun e' h' => hes e' (List.mem_cons_of_mem _ h')
      exact this g.es fun e h => h
    · exact .inr (by omega)
end Go.Pl
/- The valid graph of edges, as the reference puts it together. -/
namespace Go.Pl
open Go.RT
set_option linter.all false
def ofStep (s : List Edg) (e : Edg) : List Edg :=
  match s[(fndI s e.f e.t).toNat]? with
  | some x => if fndI s e.f e.t < 0 then putR e false s else if e.c < x.c then s.set (fndI s e.f e.t).toNat ⟨x.f, x.t, e.c⟩ else s
  | none => putR e false s
theorem fnd_none (f t : Int) : ∀ (l : List Edg) (k : Nat), fndAt f t k l = -1 → ∀ x ∈ l, ¬ (x.f = f ∧ x.t = t)
  | [], _, _, x, hx => by cases hx
  | e :: l, k, h, x, hx => by
    simp only [fndAt] at h
    split at h
    · omega
    · rename_i hb
      rcases List.mem_cons.1 hx with rfl | hx
      · intro hc; apply hb; simp [isB, hc.1, hc.2]
      · exact fnd_none f t l (k + 1) h x hx
theorem fnd_some (f t : Int) : ∀ (l : List Edg) (k j : Nat) (h : j < l.length), fndAt f t k l = ((k + j : Nat) : Int) → l[j].f = f ∧ l[j].t = t
  | e :: l, k, j, hj, h => by
    simp only [fndAt] at h
    split at h
    · rename_i hb
      have : j = 0 := by omega
      subst this
      simpa [isB] using hb
    · cases j with
      | zero => rcases fndAt_rng f t l (k + 1) with h1 | ⟨j, _, h2⟩ <;> omega
      | succ j =>
        have := fnd_some f t l (k + 1) j (by simpa using hj) (by rw [h]; omega)
        simpa using this
theorem putR_true (e : Edg) : ∀ l, putR e true l = l
  | [] => rfl
  | x :: l => by simp [putR, putR_true e l]
theorem putR_spec (e : Edg) : ∀ (l : List Edg), AscK l → (∀ x ∈ l, ¬ (x.f = e.f ∧ x.t = e.t)) → AscK (putR e false l) ∧ ∀ x, x ∈ putR e false l ↔ x = e ∨ x ∈ l
  | [], _, _ => by simp [putR, AscK]
  | y :: l, h, hn => by
    obtain ⟨h1, h2⟩ := List.pairwise_cons.1 h
    have hy := hn y (List.mem_cons_self ..)
    by_cases hb : befB e y = true
    · have e1 : putR e false (y :: l) = e :: y :: l := by simp [putR, hb, putR_true]
      rw [e1]
      have hlt := (ltK_bef e y).1 hb
      refine ⟨List.pairwise_cons.2 ⟨fun x hx => ?_, h⟩, fun x => by simp⟩
      rcases List.mem_cons.1 hx with rfl | hx
      · exact hlt
      · have := h1 x hx; unfold ltK at *; omega
    · have hb2 : befB e y = false := by simpa using hb
      have e1 : putR e false (y :: l) = y :: putR e false l := by simp [putR, hb2]
      obtain ⟨i1, i2⟩ := putR_spec e l h2 (fun x hx => hn x (List.mem_cons_of_mem _ hx))
      rw [e1]
      have hlt : ltK y e := by
        have : ¬ ltK e y := fun hh => hb ((ltK_bef e y).2 hh)
        unfold ltK at *; omega
      refine ⟨List.pairwise_cons.2 ⟨fun x hx => ?_, i1⟩, fun x => by rw [List.mem_cons, i2, List.mem_cons]; constructor <;> (intro h; rcases h with h | h | h <;> simp [h])⟩
      rcases (i2 x).1 hx with rfl | hx
      · exact hlt
      · exact h1 x hx
theorem ofStep_least {l s : List Edg} {e : Edg} (h : Least l s) : Least (l ++ [e]) (ofStep s e) := by
  rcases fndAt_rng e.f e.t s 0 with h0 | ⟨j, hj, h0⟩
  · have hnone := fnd_none e.f e.t s 0 h0
    have hs : ofStep s e = putR e false s := by
      unfold ofStep
      have hlt : fndI s e.f e.t < 0 := by show fndAt e.f e.t 0 s < 0; omega
      split
      · rw [if_pos hlt]
      · rfl
    rw [hs]
    obtain ⟨p1, p2⟩ := putR_spec e s h.asc hnone
    refine ⟨p1, fun x hx => ?_, fun x hx y hy g1 g2 => ?_, fun y hy => ?_⟩
    · rcases (p2 x).1 hx with rfl | hx
      · simp
      · exact List.mem_append.2 (.inl (h.sub x hx))
    · rcases (p2 x).1 hx with rfl | hx2
      · rcases List.mem_append.1 hy with hy | hy
        · obtain ⟨z, hz, z1, z2⟩ := h.all y hy
          exact absurd ⟨by omega, by omega⟩ (hnone z hz)
        · have : y = x := by simpa using hy
          rw [this]; exact Int.le_refl _
      · rcases List.mem_append.1 hy with hy | hy
        · exact h.min x hx2 y hy g1 g2
        · have : y = e := by simpa using hy
          subst this
          exact absurd ⟨g1.symm, g2.symm⟩ (hnone x hx2)
    · rcases List.mem_append.1 hy with hy | hy
      · obtain ⟨z, hz, z1, z2⟩ := h.all y hy
        exact ⟨z, (p2 z).2 (.inr hz), z1, z2⟩
      · have : y = e := by simpa using hy
        subst this
        exact ⟨y, (p2 y).2 (.inl rfl), rfl, rfl⟩
  · have h0' : fndI s e.f e.t = (j : Int) := by show fndAt e.f e.t 0 s = _; omega
    obtain ⟨k1, k2⟩ := fnd_some e.f e.t s 0 j hj (by omega)
    have hpos : ¬ ((j : Int) < 0) := by omega
    have hs : ofStep s e = if e.c < s[j].c then s.set j ⟨s[j].f, s[j].t, e.c⟩ else s := by
      unfold ofStep
      rw [h0']
      simp only [Int.toNat_natCast, List.getElem?_eq_getElem hj, hpos, if_false]
    rw [hs]
    have hmj := List.getElem_mem hj
    by_cases hc : e.c < s[j].c
    · rw [if_pos hc]
      have hmem : ∀ x, x ∈ s.set j ⟨s[j].f, s[j].t, e.c⟩ → x = ⟨s[j].f, s[j].t, e.c⟩ ∨ (x ∈ s ∧ ¬ (x.f = e.f ∧ x.t = e.t)) := fun x hx => by
        obtain ⟨i, hi, rfl⟩ := List.mem_iff_getElem.1 hx
        rw [List.getElem_set]
        split
        · exact .inl rfl
        · rename_i hne
          rw [List.length_set] at hi
          refine .inr ⟨List.getElem_mem hi, fun hk => ?_⟩
          have hp := List.pairwise_iff_getElem.1 h.asc
          rcases Nat.lt_trichotomy i j with hij | hij | hij
          · have := hp i j hi hj hij; unfold ltK at this; omega
          · exact hne hij.symm
          · have := hp j i hj hi hij; unfold ltK at this; omega
      have hin : (⟨s[j].f, s[j].t, e.c⟩ : Edg) = e := by cases e; simp only at *; simp [k1, k2]
      refine ⟨?_, fun x hx => ?_, fun x hx y hy g1 g2 => ?_, fun y hy => ?_⟩
      · show (s.set j _).Pairwise ltK
        rw [List.pairwise_iff_getElem]
        intro a b ha hb hab
        rw [List.length_set] at ha hb
        have hp := List.pairwise_iff_getElem.1 h.asc a b ha hb hab
        rw [List.getElem_set, List.getElem_set]
        unfold ltK at *
        split <;> split <;> (try subst_vars) <;> (try simp only at *) <;> omega
      · rcases hmem x hx with rfl | ⟨hx, _⟩
        · rw [hin]; simp
        · exact List.mem_append.2 (.inl (h.sub x hx))
      · rcases hmem x hx with rfl | ⟨hx, hne⟩
        · rcases List.mem_append.1 hy with hy | hy
          · have := h.min _ hmj y hy g1 g2; simp only at *; omega
          · have : y = e := by simpa using hy
            rw [this]; exact Int.le_refl _
        · rcases List.mem_append.1 hy with hy | hy
          · exact h.min x hx y hy g1 g2
          · have : y = e := by simpa using hy
            subst this
            exact absurd ⟨g1.symm, g2.symm⟩ hne
      · have hnew : (⟨s[j].f, s[j].t, e.c⟩ : Edg) ∈ s.set j ⟨s[j].f, s[j].t, e.c⟩ := List.mem_iff_getElem.2 ⟨j, by simpa using hj, by simp⟩
        rcases List.mem_append.1 hy with hy | hy
        · obtain ⟨z, hz, z1, z2⟩ := h.all y hy
          by_cases hzk : z.f = e.f ∧ z.t = e.t
          · exact ⟨_, hnew, by simp only; omega, by simp only; omega⟩
          · refine ⟨z, ?_, z1, z2⟩
            obtain ⟨i, hi, rfl⟩ := List.mem_iff_getElem.1 hz
            refine List.mem_iff_getElem.2 ⟨i, by simpa using hi, ?_⟩
            rw [List.getElem_set, if_neg (fun e2 => by subst e2; exact hzk ⟨k1, k2⟩)]
        · have : y = e := by simpa using hy
          exact ⟨_, hnew, by rw [this]; exact k1, by rw [this]; exact k2⟩
    · rw [if_neg hc]
      refine ⟨h.asc, fun x hx => List.mem_append.2 (.inl (h.sub x hx)), fun x hx y hy g1 g2 => ?_, fun y hy => ?_⟩
      · rcases List.mem_append.1 hy with hy | hy
        · exact h.min x hx y hy g1 g2
        · have hye : y = e := by simpa using hy
          subst hye
          have hxj : x = s[j] := by
            obtain ⟨i, hi, rfl⟩ := List.mem_iff_getElem.1 hx
            have hp := List.pairwise_iff_getElem.1 h.asc
            rcases Nat.lt_trichotomy i j with hij | hij | hij
            · have := hp i j hi hj hij; unfold ltK at this; omega
            · subst hij; rfl
            · have := hp j i hj hi hij; unfold ltK at this; omega
          rw [hxj]; omega
      · rcases List.mem_append.1 hy with hy | hy
        · exact h.all y hy
        · have : y = e := by simpa using hy
          exact ⟨s[j], hmj, by rw [this]; exact k1, by rw [this]; exact k2⟩
def ofR (l : List Edg) : List Edg := l.foldl ofStep []
theorem ofR_least (l : List Edg) : Least l (ofR l) := by
  have key : ∀ (l pre s : List Edg), Least pre s → Least (pre ++ l) (l.foldl ofStep s) := by
    intro l
    induction l with
    | nil => intro pre s h; simpa using h
    | cons e l ih => intro pre s h; have := ih (pre ++ [e]) (ofStep s e) (ofStep_least h); simpa using this
  exact key l [] [] ⟨by simp [AscK], by simp, by simp, by simp⟩
theorem ofR_eq (l : List Edg) : ofR l = ofL l := (ofR_least l).uniq (ofL_least l)
theorem ofR_succ (l : List Edg) (i : Nat) (h : i < l.length) : ofR (l.take (i + 1)) = ofStep (ofR (l.take i)) l[i] := by
  unfold ofR; rw [List.take_succ_eq_append_getElem h, List.foldl_append]; rfl
theorem ofR_len (l : List Edg) : (ofR l).length ≤ l.length := by rw [ofR_eq]; exact ofL_len l
end Go.Pl
