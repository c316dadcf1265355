/-
  The walks of BuildNone's callees that touch the builder just made: New(1), the atomic count's Load, and the counts of that builder.
-/
import Derived.Test.YtffbcpgicboomaaRows
import Derived.WalkKit
import Derived.ProofKit
import Derived.WalkSpells
import Derived.WalkLawsBesides
import Derived.Handy
import Derived.Below
import Derived.Laws.LoneSync
import Derived.StillTailTactics
namespace Go.Proofs.Ytffbcpgicboomaa
open Go.ChangeShapes Go.WideShapes Go.ChangeAt Go.RowKit

/-- The cells of the builder that New(1) makes. -/
def fresh : Array Value := #[.int .i64 1, .int .i32 0, .int .u32 0, .slice none 0 0, .map none, .pointer none, .int .i64 0, .int .i64 0, .int .i64 0, .bool false, .int .i64 0, .int .i64 0, .int .i64 0]

theorem new_one (w : World) : Calls Try.prog 7 #[.int .i64 1] w fun e w' =>
    e = .returned (.tuple #[.pointer (some ⟨w.heap.size, 0, none⟩), .int .i64 0]) ∧ w' = w.alloc (.cells fresh 56) := by
  go_enter Try.func7, Try.ntmps7
  go_wp2
  exact bodyPost_ret (v := .tuple #[.pointer (some ⟨w.heap.size, 0, none⟩), .int .i64 0]) (by simp [results, Try.results7, go_sem]) rfl ⟨rfl, rfl⟩

theorem load64 (b o : Nat) (x : Int) (w : World) (h : w.cell? ⟨b, o, none⟩ = some (.int .i64 x)) : Calls Try.prog 13 #[.pointer (some ⟨b, o, none⟩)] w fun e w' =>
    e = .returned (.int .i64 x) ∧ w' = w := by
  have hl := run_call_load (P := Try.prog) Try.func16 (by kernel_rfl) (by kernel_rfl) (by kernel_rfl) .i64 (by kernel_rfl) h
  go_enter Try.func13, Try.ntmps13
  go_wp2
  go_ret
  exact ⟨rfl, rfl⟩

set_option maxRecDepth 100000 in
theorem stats_new (b : Nat) (w : World) (hb : b < w.heap.size) (h0 : w.cell? ⟨b, 10, none⟩ = some (.int .i64 0)) (h1 : w.cell? ⟨b, 11, none⟩ = some (.int .i64 0)) (h2 : w.cell? ⟨b, 12, none⟩ = some (.int .i64 0)) :
    Calls Try.prog 8 #[.pointer (some ⟨b, 0, none⟩)] w fun e w' => e = .returned (.agg #[.int .i64 0, .int .i64 0, .int .i64 0]) ∧ Below w.heap.size w w' := by
  go_enter Try.func8, Try.ntmps8
  go_wp2
  refine wp_region_still_tail 13 (by kernel_rfl) (by kernel_rfl) ?_
  simp only [List.take_succ_cons, List.take_zero, List.drop_succ_cons, List.drop_zero]
  have hB : Below w.heap.size w (w.alloc (.cells #[.int .i64 0, .int .i64 0, .int .i64 0] 37)).drew := ((Below.refl _ _).alloc (Nat.le_refl _) _).drew
  have g0 : (w.alloc (.cells #[.int .i64 0, .int .i64 0, .int .i64 0] 37)).drew.cell? ⟨b, 10, none⟩ = some (.int .i64 0) := (World.cell?_alloc_past _ _ _ hb).trans h0
  have g1 : (w.alloc (.cells #[.int .i64 0, .int .i64 0, .int .i64 0] 37)).drew.cell? ⟨b, 11, none⟩ = some (.int .i64 0) := (World.cell?_alloc_past _ _ _ hb).trans h1
  have g2 : (w.alloc (.cells #[.int .i64 0, .int .i64 0, .int .i64 0] 37)).drew.cell? ⟨b, 12, none⟩ = some (.int .i64 0) := (World.cell?_alloc_past _ _ _ hb).trans h2
  change wpStill _ _ (w.alloc (.cells #[.int .i64 0, .int .i64 0, .int .i64 0] 37)).drew (fun a' => wpList _ _ _ _ a' (w.alloc (.cells #[.int .i64 0, .int .i64 0, .int .i64 0] 37)).drew) _ _
  iterate 3 still_step
  still_call (load64 b 10 0 _ g0)
  iterate 9 still_step
  refine wpStill_nil ?_
  go_wp2
  exact bodyPost_ret (v := .agg #[.int .i64 0, .int .i64 0, .int .i64 0]) (by simp [results, Try.results8, go_sem]) rfl ⟨rfl, hB⟩
end Go.Proofs.Ytffbcpgicboomaa
