/-
  THE WALKS of the Swap and Cas edges, out of the words' contracts: the world behind each is the world before and one new block.
-/
import Derived.Test.Qxb6500586aWords
namespace Go.Proofs.Qxb6500586a.words
open Go.RowKit

/-! ### word 0 of a fresh set -/
theorem wordAt0 (a b c d e : Int) (z : Int) (hz : wrap64 d = z) (w : World) :
    Calls Try.prog 20 #[.pointer (some ⟨w.heap.size, 0, none⟩), .int .i64 0] (w.alloc (.cells (cells a b c d e) 60)) fun e' w' => e' = .returned (.tuple #[.int .i64 z, .int .i64 0]) ∧ w' = (w.alloc (.cells (cells a b c d e) 60)) :=
  word0 w.heap.size d z hz _ (by rw [World.cell?_alloc_new]; rfl)
theorem tradeAt0 (a b c d e : Int) (v : Int) (y : Int) (hy : wrap32 v = y) (z : Int) (hz : wrap64 d = z) (w : World) :
    Calls Try.prog 24 #[.pointer (some ⟨w.heap.size, 0, none⟩), .int .i64 0, .int .i64 v] (w.alloc (.cells (cells a b c d e) 60)) fun e' w' => e' = .returned (.tuple #[.int .i64 z, .int .i64 0]) ∧ w' = w.alloc (.cells (cells a b c y e) 60) :=
  (trade0 w.heap.size v y hy d z hz _ (by rw [World.cell?_alloc_new]; rfl) (by simp)).mono (by rintro e w' ⟨rfl, rfl⟩; exact ⟨rfl, by rw [World.setCell_alloc_new]; rfl⟩)
theorem claimHitAt0 (a b c e : Int) (o : Int) (p : Int) (hp : wrap32 o = p) (v : Int) (y : Int) (hy : wrap32 v = y) (w : World) :
    Calls Try.prog 25 #[.pointer (some ⟨w.heap.size, 0, none⟩), .int .i64 0, .int .i64 o, .int .i64 v] (w.alloc (.cells (cells a b c p e) 60)) fun e' w' => e' = .returned (.tuple #[.int .i64 1, .int .i64 0]) ∧ w' = w.alloc (.cells (cells a b c y e) 60) :=
  (claimHit0 w.heap.size o p hp v y hy _ (by rw [World.cell?_alloc_new]; rfl) (by simp)).mono (by rintro e w' ⟨rfl, rfl⟩; exact ⟨rfl, by rw [World.setCell_alloc_new]; rfl⟩)
theorem claimMissAt0 (a b c d e : Int) (o : Int) (p : Int) (hp : wrap32 o = p) (v : Int) (y : Int) (hy : wrap32 v = y) (w : World) (hne : ¬ d = p) :
    Calls Try.prog 25 #[.pointer (some ⟨w.heap.size, 0, none⟩), .int .i64 0, .int .i64 o, .int .i64 v] (w.alloc (.cells (cells a b c d e) 60)) fun e' w' => e' = .returned (.tuple #[.int .i64 0, .int .i64 0]) ∧ w' = (w.alloc (.cells (cells a b c d e) 60)) :=
  claimMiss0 w.heap.size o p hp v y hy d _ (by rw [World.cell?_alloc_new]; rfl) (by simp) hne

/-! ### word 1 of a fresh set -/
theorem wordAt1 (a b c d e : Int) (z : Int) (hz : wrap64 e = z) (w : World) :
    Calls Try.prog 20 #[.pointer (some ⟨w.heap.size, 0, none⟩), .int .i64 1] (w.alloc (.cells (cells a b c d e) 60)) fun e' w' => e' = .returned (.tuple #[.int .i64 z, .int .i64 0]) ∧ w' = (w.alloc (.cells (cells a b c d e) 60)) :=
  word1 w.heap.size e z hz _ (by rw [World.cell?_alloc_new]; rfl)
theorem tradeAt1 (a b c d e : Int) (v : Int) (y : Int) (hy : IntKind.wrap .u32 v = y) (z : Int) (hz : wrap64 e = z) (w : World) :
    Calls Try.prog 24 #[.pointer (some ⟨w.heap.size, 0, none⟩), .int .i64 1, .int .i64 v] (w.alloc (.cells (cells a b c d e) 60)) fun e' w' => e' = .returned (.tuple #[.int .i64 z, .int .i64 0]) ∧ w' = w.alloc (.cells (cells a b c d y) 60) :=
  (trade1 w.heap.size v y hy e z hz _ (by rw [World.cell?_alloc_new]; rfl) (by simp)).mono (by rintro e w' ⟨rfl, rfl⟩; exact ⟨rfl, by rw [World.setCell_alloc_new]; rfl⟩)
theorem claimHitAt1 (a b c d : Int) (o : Int) (p : Int) (hp : IntKind.wrap .u32 o = p) (v : Int) (y : Int) (hy : IntKind.wrap .u32 v = y) (w : World) :
    Calls Try.prog 25 #[.pointer (some ⟨w.heap.size, 0, none⟩), .int .i64 1, .int .i64 o, .int .i64 v] (w.alloc (.cells (cells a b c d p) 60)) fun e' w' => e' = .returned (.tuple #[.int .i64 1, .int .i64 0]) ∧ w' = w.alloc (.cells (cells a b c d y) 60) :=
  (claimHit1 w.heap.size o p hp v y hy _ (by rw [World.cell?_alloc_new]; rfl) (by simp)).mono (by rintro e w' ⟨rfl, rfl⟩; exact ⟨rfl, by rw [World.setCell_alloc_new]; rfl⟩)
theorem claimMissAt1 (a b c d e : Int) (o : Int) (p : Int) (hp : IntKind.wrap .u32 o = p) (v : Int) (y : Int) (hy : IntKind.wrap .u32 v = y) (w : World) (hne : ¬ e = p) :
    Calls Try.prog 25 #[.pointer (some ⟨w.heap.size, 0, none⟩), .int .i64 1, .int .i64 o, .int .i64 v] (w.alloc (.cells (cells a b c d e) 60)) fun e' w' => e' = .returned (.tuple #[.int .i64 0, .int .i64 0]) ∧ w' = (w.alloc (.cells (cells a b c d e) 60)) :=
  claimMiss1 w.heap.size o p hp v y hy e _ (by rw [World.cell?_alloc_new]; rfl) (by simp) hne

set_option maxHeartbeats 1000000 in
theorem edgeSwapInt32_walk (v0 : Value) (w : World) :
    Calls Try.prog 7 #[v0] w fun e w' => e = .returned (.bool true) ∧ ∃ c, w' = w.alloc (.cells c 60) := by
  go_enter Try.func7, Try.ntmps7
  go_wp2_with fail
  refine (holding0 7 7 (by decide +kernel) _).mono ?_
  rintro e w' ⟨rfl, rfl⟩
  go_wp2_with fail
  refine (tradeAt0 0 0 0 7 0 (-2) (-2) (by decide +kernel) 7 (by decide +kernel) _).mono ?_
  rintro e w' ⟨rfl, rfl⟩
  go_wp2_with fail
  refine (wordAt0 0 0 0 (-2) 0 (-2) (by decide +kernel) _).mono ?_
  rintro e w' ⟨rfl, rfl⟩
  go_wp2_with fail
  go_ret
  exact ⟨rfl, _, rfl⟩

set_option maxHeartbeats 1000000 in
theorem edgeCasInt32_walk (v0 : Value) (w : World) :
    Calls Try.prog 8 #[v0] w fun e w' => e = .returned (.bool true) ∧ ∃ c, w' = w.alloc (.cells c 60) := by
  go_enter Try.func8, Try.ntmps8
  go_wp2_with fail
  refine (holding0 4294967301 5 (by decide +kernel) _).mono ?_
  rintro e w' ⟨rfl, rfl⟩
  go_wp2_with fail
  refine (claimHitAt0 0 0 0 0 5 5 (by decide +kernel) 9 9 (by decide +kernel) _).mono ?_
  rintro e w' ⟨rfl, rfl⟩
  go_wp2_with fail
  refine (wordAt0 0 0 0 9 0 9 (by decide +kernel) _).mono ?_
  rintro e w' ⟨rfl, rfl⟩
  go_wp2_with fail
  refine (claimHitAt0 0 0 0 0 4294967305 9 (by decide +kernel) 11 11 (by decide +kernel) _).mono ?_
  rintro e w' ⟨rfl, rfl⟩
  go_wp2_with fail
  refine (wordAt0 0 0 0 11 0 11 (by decide +kernel) _).mono ?_
  rintro e w' ⟨rfl, rfl⟩
  go_wp2_with fail
  refine (claimMissAt0 0 0 0 11 0 5 5 (by decide +kernel) 13 13 (by decide +kernel) _ (by decide +kernel)).mono ?_
  rintro e w' ⟨rfl, rfl⟩
  go_wp2_with fail
  refine (wordAt0 0 0 0 11 0 11 (by decide +kernel) _).mono ?_
  rintro e w' ⟨rfl, rfl⟩
  go_wp2_with fail
  go_ret
  exact ⟨rfl, _, rfl⟩

set_option maxHeartbeats 1000000 in
theorem edgeSwapUint32_walk (v0 : Value) (w : World) :
    Calls Try.prog 14 #[v0] w fun e w' => e = .returned (.bool true) ∧ ∃ c, w' = w.alloc (.cells c 60) := by
  go_enter Try.func14, Try.ntmps14
  go_wp2_with fail
  refine (holding1 7 7 (by decide +kernel) _).mono ?_
  rintro e w' ⟨rfl, rfl⟩
  go_wp2_with fail
  refine (tradeAt1 0 0 0 0 7 (-2) 4294967294 (by decide +kernel) 7 (by decide +kernel) _).mono ?_
  rintro e w' ⟨rfl, rfl⟩
  go_wp2_with fail
  refine (wordAt1 0 0 0 0 4294967294 4294967294 (by decide +kernel) _).mono ?_
  rintro e w' ⟨rfl, rfl⟩
  go_wp2_with fail
  go_ret
  exact ⟨rfl, _, rfl⟩

set_option maxHeartbeats 1000000 in
theorem edgeCasUint32_walk (v0 : Value) (w : World) :
    Calls Try.prog 15 #[v0] w fun e w' => e = .returned (.bool true) ∧ ∃ c, w' = w.alloc (.cells c 60) := by
  go_enter Try.func15, Try.ntmps15
  go_wp2_with fail
  refine (holding1 4294967301 5 (by decide +kernel) _).mono ?_
  rintro e w' ⟨rfl, rfl⟩
  go_wp2_with fail
  refine (claimHitAt1 0 0 0 0 5 5 (by decide +kernel) 9 9 (by decide +kernel) _).mono ?_
  rintro e w' ⟨rfl, rfl⟩
  go_wp2_with fail
  refine (wordAt1 0 0 0 0 9 9 (by decide +kernel) _).mono ?_
  rintro e w' ⟨rfl, rfl⟩
  go_wp2_with fail
  refine (claimHitAt1 0 0 0 0 4294967305 9 (by decide +kernel) 11 11 (by decide +kernel) _).mono ?_
  rintro e w' ⟨rfl, rfl⟩
  go_wp2_with fail
  refine (wordAt1 0 0 0 0 11 11 (by decide +kernel) _).mono ?_
  rintro e w' ⟨rfl, rfl⟩
  go_wp2_with fail
  refine (claimMissAt1 0 0 0 0 11 5 5 (by decide +kernel) 13 13 (by decide +kernel) _ (by decide +kernel)).mono ?_
  rintro e w' ⟨rfl, rfl⟩
  go_wp2_with fail
  refine (wordAt1 0 0 0 0 11 11 (by decide +kernel) _).mono ?_
  rintro e w' ⟨rfl, rfl⟩
  go_wp2_with fail
  go_ret
  exact ⟨rfl, _, rfl⟩

end Go.Proofs.Qxb6500586a.words
