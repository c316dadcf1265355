/-
  The walk of moniker/monikerlaw18.BuildNone: for every pair of arguments it returns true, and writes nothing that was there.
-/
import Derived.Test.YtffbcpgicboomaaWalkA
import Derived.Test.YtffbcpgicboomaaWalkB
namespace Go.Proofs.Ytffbcpgicboomaa
open Go.ChangeShapes Go.WideShapes Go.ChangeAt Go.RowKit

set_option maxRecDepth 100000 in
theorem walk (a0 a1 : Option Addr) (l0 c0 l1 c1 : Nat) (w : World) :
    Calls Try.prog 3 #[.slice a0 l0 c0, .slice a1 l1 c1] w fun e w' => e = .returned (.bool true) ∧ Below w.heap.size w w' := by
  go_enter Try.func3, Try.ntmps3
  go_wp2_with (first
    | (go_at_call 4; refine (open_nil _ _).mono ?_; rintro e w1 ⟨rfl, hB1⟩)
    | (go_at_call 5; refine (rename_nil _ _ _).mono ?_; rintro e w1 ⟨rfl, rfl⟩)
    | (go_at_call 6; refine (drop_nil _).mono ?_; rintro e w1 ⟨rfl, rfl⟩)
    | (go_at_call 7; refine (new_one _).mono ?_; rintro e w1 ⟨rfl, rfl⟩))
  have hs : ((w1.alloc (.cells #[.int .i64 0, .int .i64 0, .int .i64 0] 28)).alloc (.cells fresh 56)).heap.size = w1.heap.size + 2 := by simp
  have f : ∀ i, ((w1.alloc (.cells #[.int .i64 0, .int .i64 0, .int .i64 0] 28)).alloc (.cells fresh 56)).cell? ⟨w1.heap.size + 1, i, none⟩ = fresh[i]? := fun i => World.cell?_alloc2_new _ _ _ _
  have g : ∀ i, ((w1.alloc (.cells #[.int .i64 0, .int .i64 0, .int .i64 0] 28)).alloc (.cells fresh 56)).cell? ⟨w1.heap.size, i, none⟩ = (#[.int .i64 0, .int .i64 0, .int .i64 0] : Array Value)[i]? := fun i => World.cell?_alloc2_first _ _ _ _
  have hB1' : Below w.heap.size w ((w1.alloc (.cells #[.int .i64 0, .int .i64 0, .int .i64 0] 28)).alloc (.cells fresh 56)) := (hB1.alloc hB1.size _).alloc (Nat.le_trans hB1.size (by simp)) _
  refine (stats_new _ _ (by omega) (f 10) (f 11) (f 12)).mono ?_
  generalize (w1.alloc (.cells #[.int .i64 0, .int .i64 0, .int .i64 0] 28)).alloc (.cells fresh 56) = w2 at *
  rintro e w3 ⟨rfl, hB3⟩
  have hB3' : Below w.heap.size w w3 := hB1'.trans (hB3.mono hB1'.size)
  have q0 : w3.cell? ⟨w1.heap.size, 0, none⟩ = some (.int .i64 0) := (hB3.cell (show w1.heap.size < w2.heap.size by omega)).trans (g 0)
  have q1 : w3.cell? ⟨w1.heap.size, 1, none⟩ = some (.int .i64 0) := (hB3.cell (show w1.heap.size < w2.heap.size by omega)).trans (g 1)
  have q2 : w3.cell? ⟨w1.heap.size, 2, none⟩ = some (.int .i64 0) := (hB3.cell (show w1.heap.size < w2.heap.size by omega)).trans (g 2)
  clear f g
  go_wp2_with (first
    | (go_at_call 9; refine (all_nil _ _ _ _ _ _ _).mono ?_; rintro e w4 ⟨rfl, hB4⟩)
    | (go_at_call 8; refine (stats_nil _).mono ?_; rintro e w5 ⟨rfl, hB5⟩))
  go_ret
  exact ⟨rfl, (hB3'.trans (hB4.mono hB3'.size)).trans (hB5.mono (hB3'.trans (hB4.mono hB3'.size)).size)⟩
end Go.Proofs.Ytffbcpgicboomaa
