/-
  THE WALKS of the Swap and Cas edges, out of the words' contracts: the world behind each is the world before and one new block.
-/
import Derived.Test.Qxb6500588aWords
namespace Go.Proofs.Qxb6500588a.words
open Go.RowKit

/-! ### word 4 of a fresh set -/
theorem wordAt4 (a b c d e : Int) (z : Int) (hz : wrap64 c = z) (w : World) :
    Calls Try.prog 17 #[.pointer (some ⟨w.heap.size, 0, none⟩), .int .i64 4] (w.alloc (.cells (cells a b c d e) 63)) fun e' w' => e' = .returned (.tuple #[.int .i64 z, .int .i64 0]) ∧ w' = (w.alloc (.cells (cells a b c d e) 63)) :=
  word4 w.heap.size c z hz _ (by rw [World.cell?_alloc_new]; rfl)
theorem tradeAt4 (a b c d e : Int) (v : Int) (y : Int) (hy : IntKind.wrap .u64 v = y) (z : Int) (hz : wrap64 c = z) (w : World) :
    Calls Try.prog 21 #[.pointer (some ⟨w.heap.size, 0, none⟩), .int .i64 4, .int .i64 v] (w.alloc (.cells (cells a b c d e) 63)) fun e' w' => e' = .returned (.tuple #[.int .i64 z, .int .i64 0]) ∧ w' = w.alloc (.cells (cells a b y d e) 63) :=
  (trade4 w.heap.size v y hy c z hz _ (by rw [World.cell?_alloc_new]; rfl) (by simp)).mono (by rintro e w' ⟨rfl, rfl⟩; exact ⟨rfl, by rw [World.setCell_alloc_new]; rfl⟩)
theorem claimHitAt4 (a b d e : Int) (o : Int) (p : Int) (hp : IntKind.wrap .u64 o = p) (v : Int) (y : Int) (hy : IntKind.wrap .u64 v = y) (w : World) :
    Calls Try.prog 22 #[.pointer (some ⟨w.heap.size, 0, none⟩), .int .i64 4, .int .i64 o, .int .i64 v] (w.alloc (.cells (cells a b p d e) 63)) fun e' w' => e' = .returned (.tuple #[.int .i64 1, .int .i64 0]) ∧ w' = w.alloc (.cells (cells a b y d e) 63) :=
  (claimHit4 w.heap.size o p hp v y hy _ (by rw [World.cell?_alloc_new]; rfl) (by simp)).mono (by rintro e w' ⟨rfl, rfl⟩; exact ⟨rfl, by rw [World.setCell_alloc_new]; rfl⟩)
theorem claimMissAt4 (a b c d e : Int) (o : Int) (p : Int) (hp : IntKind.wrap .u64 o = p) (v : Int) (y : Int) (hy : IntKind.wrap .u64 v = y) (w : World) (hne : ¬ c = p) :
    Calls Try.prog 22 #[.pointer (some ⟨w.heap.size, 0, none⟩), .int .i64 4, .int .i64 o, .int .i64 v] (w.alloc (.cells (cells a b c d e) 63)) fun e' w' => e' = .returned (.tuple #[.int .i64 0, .int .i64 0]) ∧ w' = (w.alloc (.cells (cells a b c d e) 63)) :=
  claimMiss4 w.heap.size o p hp v y hy c _ (by rw [World.cell?_alloc_new]; rfl) (by simp) hne

set_option maxHeartbeats 1000000 in
theorem edgeSwapUintptr_walk (v0 : Value) (w : World) :
    Calls Try.prog 7 #[v0] w fun e w' => e = .returned (.bool true) ∧ ∃ c, w' = w.alloc (.cells c 63) := by
  go_enter Try.func7, Try.ntmps7
  go_wp2_with fail
  refine (holding4 7 7 (by decide +kernel) _).mono ?_
  rintro e w' ⟨rfl, rfl⟩
  go_wp2_with fail
  refine (tradeAt4 0 0 7 0 0 (-2) 18446744073709551614 (by decide +kernel) 7 (by decide +kernel) _).mono ?_
  rintro e w' ⟨rfl, rfl⟩
  go_wp2_with fail
  refine (wordAt4 0 0 18446744073709551614 0 0 (-2) (by decide +kernel) _).mono ?_
  rintro e w' ⟨rfl, rfl⟩
  go_wp2_with fail
  go_ret
  exact ⟨rfl, _, rfl⟩

set_option maxHeartbeats 1000000 in
theorem edgeCasUintptr_walk (v0 : Value) (w : World) :
    Calls Try.prog 8 #[v0] w fun e w' => e = .returned (.bool true) ∧ ∃ c, w' = w.alloc (.cells c 63) := by
  go_enter Try.func8, Try.ntmps8
  go_wp2_with fail
  refine (holding4 4294967301 4294967301 (by decide +kernel) _).mono ?_
  rintro e w' ⟨rfl, rfl⟩
  go_wp2_with fail
  refine (claimMissAt4 0 0 4294967301 0 0 5 5 (by decide +kernel) 9 9 (by decide +kernel) _ (by decide +kernel)).mono ?_
  rintro e w' ⟨rfl, rfl⟩
  go_wp2_with fail
  refine (wordAt4 0 0 4294967301 0 0 4294967301 (by decide +kernel) _).mono ?_
  rintro e w' ⟨rfl, rfl⟩
  go_wp2_with fail
  refine (claimHitAt4 0 0 0 0 4294967301 4294967301 (by decide +kernel) 11 11 (by decide +kernel) _).mono ?_
  rintro e w' ⟨rfl, rfl⟩
  go_wp2_with fail
  refine (wordAt4 0 0 11 0 0 11 (by decide +kernel) _).mono ?_
  rintro e w' ⟨rfl, rfl⟩
  go_wp2_with fail
  go_ret
  exact ⟨rfl, _, rfl⟩

end Go.Proofs.Qxb6500588a.words
