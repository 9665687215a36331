/-
  THE WALKS of the Swap and Cas edges, out of the words' contracts: the world behind each is the world before and one new block.
-/
import Derived.Test.Qxb6500587aWords
namespace Go.Proofs.Qxb6500587a.words
open Go.RowKit

/-! ### word 2 of a fresh set -/
theorem wordAt2 (a b c d e : Int) (w : World) :
    Calls Try.prog 20 #[.pointer (some ⟨w.heap.size, 0, none⟩), .int .i64 2] (w.alloc (.cells (cells a b c d e) 60)) fun e' w' => e' = .returned (.tuple #[.int .i64 a, .int .i64 0]) ∧ w' = (w.alloc (.cells (cells a b c d e) 60)) :=
  word2 w.heap.size a _ (by rw [World.cell?_alloc_new]; rfl)
theorem tradeAt2 (a b c d e : Int) (v : Int) (w : World) :
    Calls Try.prog 24 #[.pointer (some ⟨w.heap.size, 0, none⟩), .int .i64 2, .int .i64 v] (w.alloc (.cells (cells a b c d e) 60)) fun e' w' => e' = .returned (.tuple #[.int .i64 a, .int .i64 0]) ∧ w' = w.alloc (.cells (cells v b c d e) 60) :=
  (trade2 w.heap.size v a _ (by rw [World.cell?_alloc_new]; rfl) (by simp)).mono (by rintro e w' ⟨rfl, rfl⟩; exact ⟨rfl, by rw [World.setCell_alloc_new]; rfl⟩)
theorem claimHitAt2 (b c d e : Int) (o : Int) (v : Int) (w : World) :
    Calls Try.prog 25 #[.pointer (some ⟨w.heap.size, 0, none⟩), .int .i64 2, .int .i64 o, .int .i64 v] (w.alloc (.cells (cells o b c d e) 60)) fun e' w' => e' = .returned (.tuple #[.int .i64 1, .int .i64 0]) ∧ w' = w.alloc (.cells (cells v b c d e) 60) :=
  (claimHit2 w.heap.size o v _ (by rw [World.cell?_alloc_new]; rfl) (by simp)).mono (by rintro e w' ⟨rfl, rfl⟩; exact ⟨rfl, by rw [World.setCell_alloc_new]; rfl⟩)
theorem claimMissAt2 (a b c d e : Int) (o : Int) (v : Int) (w : World) (hne : ¬ a = o) :
    Calls Try.prog 25 #[.pointer (some ⟨w.heap.size, 0, none⟩), .int .i64 2, .int .i64 o, .int .i64 v] (w.alloc (.cells (cells a b c d e) 60)) fun e' w' => e' = .returned (.tuple #[.int .i64 0, .int .i64 0]) ∧ w' = (w.alloc (.cells (cells a b c d e) 60)) :=
  claimMiss2 w.heap.size o v a _ (by rw [World.cell?_alloc_new]; rfl) (by simp) hne

/-! ### word 3 of a fresh set -/
theorem wordAt3 (a b c d e : Int) (z : Int) (hz : wrap64 b = z) (w : World) :
    Calls Try.prog 20 #[.pointer (some ⟨w.heap.size, 0, none⟩), .int .i64 3] (w.alloc (.cells (cells a b c d e) 60)) fun e' w' => e' = .returned (.tuple #[.int .i64 z, .int .i64 0]) ∧ w' = (w.alloc (.cells (cells a b c d e) 60)) :=
  word3 w.heap.size b z hz _ (by rw [World.cell?_alloc_new]; rfl)
theorem tradeAt3 (a b c d e : Int) (v : Int) (y : Int) (hy : IntKind.wrap .u64 v = y) (z : Int) (hz : wrap64 b = z) (w : World) :
    Calls Try.prog 24 #[.pointer (some ⟨w.heap.size, 0, none⟩), .int .i64 3, .int .i64 v] (w.alloc (.cells (cells a b c d e) 60)) fun e' w' => e' = .returned (.tuple #[.int .i64 z, .int .i64 0]) ∧ w' = w.alloc (.cells (cells a y c d e) 60) :=
  (trade3 w.heap.size v y hy b z hz _ (by rw [World.cell?_alloc_new]; rfl) (by simp)).mono (by rintro e w' ⟨rfl, rfl⟩; exact ⟨rfl, by rw [World.setCell_alloc_new]; rfl⟩)
theorem claimHitAt3 (a c d e : Int) (o : Int) (p : Int) (hp : IntKind.wrap .u64 o = p) (v : Int) (y : Int) (hy : IntKind.wrap .u64 v = y) (w : World) :
    Calls Try.prog 25 #[.pointer (some ⟨w.heap.size, 0, none⟩), .int .i64 3, .int .i64 o, .int .i64 v] (w.alloc (.cells (cells a p c d e) 60)) fun e' w' => e' = .returned (.tuple #[.int .i64 1, .int .i64 0]) ∧ w' = w.alloc (.cells (cells a y c d e) 60) :=
  (claimHit3 w.heap.size o p hp v y hy _ (by rw [World.cell?_alloc_new]; rfl) (by simp)).mono (by rintro e w' ⟨rfl, rfl⟩; exact ⟨rfl, by rw [World.setCell_alloc_new]; rfl⟩)
theorem claimMissAt3 (a b c d e : Int) (o : Int) (p : Int) (hp : IntKind.wrap .u64 o = p) (v : Int) (y : Int) (hy : IntKind.wrap .u64 v = y) (w : World) (hne : ¬ b = p) :
    Calls Try.prog 25 #[.pointer (some ⟨w.heap.size, 0, none⟩), .int .i64 3, .int .i64 o, .int .i64 v] (w.alloc (.cells (cells a b c d e) 60)) fun e' w' => e' = .returned (.tuple #[.int .i64 0, .int .i64 0]) ∧ w' = (w.alloc (.cells (cells a b c d e) 60)) :=
  claimMiss3 w.heap.size o p hp v y hy b _ (by rw [World.cell?_alloc_new]; rfl) (by simp) hne

set_option maxHeartbeats 1000000 in
theorem edgeSwapInt64_walk (v0 : Value) (w : World) :
    Calls Try.prog 7 #[v0] w fun e w' => e = .returned (.bool true) ∧ ∃ c, w' = w.alloc (.cells c 60) := by
  go_enter Try.func7, Try.ntmps7
  go_wp2_with fail
  refine (holding2 7 _).mono ?_
  rintro e w' ⟨rfl, rfl⟩
  go_wp2_with fail
  refine (tradeAt2 7 0 0 0 0 (-2) _).mono ?_
  rintro e w' ⟨rfl, rfl⟩
  go_wp2_with fail
  refine (wordAt2 (-2) 0 0 0 0 _).mono ?_
  rintro e w' ⟨rfl, rfl⟩
  go_wp2_with fail
  go_ret
  exact ⟨rfl, _, rfl⟩

set_option maxHeartbeats 1000000 in
theorem edgeCasInt64_walk (v0 : Value) (w : World) :
    Calls Try.prog 8 #[v0] w fun e w' => e = .returned (.bool true) ∧ ∃ c, w' = w.alloc (.cells c 60) := by
  go_enter Try.func8, Try.ntmps8
  go_wp2_with fail
  refine (holding2 4294967301 _).mono ?_
  rintro e w' ⟨rfl, rfl⟩
  go_wp2_with fail
  refine (claimMissAt2 4294967301 0 0 0 0 5 9 _ (by decide +kernel)).mono ?_
  rintro e w' ⟨rfl, rfl⟩
  go_wp2_with fail
  refine (wordAt2 4294967301 0 0 0 0 _).mono ?_
  rintro e w' ⟨rfl, rfl⟩
  go_wp2_with fail
  refine (claimHitAt2 0 0 0 0 4294967301 11 _).mono ?_
  rintro e w' ⟨rfl, rfl⟩
  go_wp2_with fail
  refine (wordAt2 11 0 0 0 0 _).mono ?_
  rintro e w' ⟨rfl, rfl⟩
  go_wp2_with fail
  go_ret
  exact ⟨rfl, _, rfl⟩

set_option maxHeartbeats 1000000 in
theorem edgeSwapUint64_walk (v0 : Value) (w : World) :
    Calls Try.prog 14 #[v0] w fun e w' => e = .returned (.bool true) ∧ ∃ c, w' = w.alloc (.cells c 60) := by
  go_enter Try.func14, Try.ntmps14
  go_wp2_with fail
  refine (holding3 7 7 (by decide +kernel) _).mono ?_
  rintro e w' ⟨rfl, rfl⟩
  go_wp2_with fail
  refine (tradeAt3 0 7 0 0 0 (-2) 18446744073709551614 (by decide +kernel) 7 (by decide +kernel) _).mono ?_
  rintro e w' ⟨rfl, rfl⟩
  go_wp2_with fail
  refine (wordAt3 0 18446744073709551614 0 0 0 (-2) (by decide +kernel) _).mono ?_
  rintro e w' ⟨rfl, rfl⟩
  go_wp2_with fail
  go_ret
  exact ⟨rfl, _, rfl⟩

set_option maxHeartbeats 1000000 in
theorem edgeCasUint64_walk (v0 : Value) (w : World) :
    Calls Try.prog 15 #[v0] w fun e w' => e = .returned (.bool true) ∧ ∃ c, w' = w.alloc (.cells c 60) := by
  go_enter Try.func15, Try.ntmps15
  go_wp2_with fail
  refine (holding3 4294967301 4294967301 (by decide +kernel) _).mono ?_
  rintro e w' ⟨rfl, rfl⟩
  go_wp2_with fail
  refine (claimMissAt3 0 4294967301 0 0 0 5 5 (by decide +kernel) 9 9 (by decide +kernel) _ (by decide +kernel)).mono ?_
  rintro e w' ⟨rfl, rfl⟩
  go_wp2_with fail
  refine (wordAt3 0 4294967301 0 0 0 4294967301 (by decide +kernel) _).mono ?_
  rintro e w' ⟨rfl, rfl⟩
  go_wp2_with fail
  refine (claimHitAt3 0 0 0 0 4294967301 4294967301 (by decide +kernel) 11 11 (by decide +kernel) _).mono ?_
  rintro e w' ⟨rfl, rfl⟩
  go_wp2_with fail
  refine (wordAt3 0 11 0 0 0 11 (by decide +kernel) _).mono ?_
  rintro e w' ⟨rfl, rfl⟩
  go_wp2_with fail
  go_ret
  exact ⟨rfl, _, rfl⟩

end Go.Proofs.Qxb6500587a.words
