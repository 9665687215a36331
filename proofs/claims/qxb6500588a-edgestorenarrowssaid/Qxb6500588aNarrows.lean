/-
  THE WALK of EdgeStoreNarrows: five resets, each at its word's width, then Show.
-/
import Derived.Test.Qxb6500588aShow
namespace Go.Proofs.Qxb6500588a.narrows
open Go.RowKit Go.Proofs.Qxb6500588a.words Go.Proofs.Qxb6500588a.itoa

theorem resetAt0 (a b c d e : Int) (v : Int) (y : Int) (hy : wrap32 v = y) (w : World) :
    Calls Try.prog 24 #[.pointer (some ⟨w.heap.size, 0, none⟩), .int .i64 0, .int .i64 v] (w.alloc (.cells (cells a b c d e) 63)) fun e' w' => e' = .returned (.int .i64 0) ∧ w' = w.alloc (.cells (cells a b c y e) 63) :=
  (reset0 w.heap.size v y hy _ _ (by rw [World.cell?_alloc_new]; rfl) (by simp)).mono (by rintro e w' ⟨rfl, rfl⟩; exact ⟨rfl, by rw [World.setCell_alloc_new]; rfl⟩)

theorem resetAt1 (a b c d e : Int) (v : Int) (y : Int) (hy : IntKind.wrap .u32 v = y) (w : World) :
    Calls Try.prog 24 #[.pointer (some ⟨w.heap.size, 0, none⟩), .int .i64 1, .int .i64 v] (w.alloc (.cells (cells a b c d e) 63)) fun e' w' => e' = .returned (.int .i64 0) ∧ w' = w.alloc (.cells (cells a b c d y) 63) :=
  (reset1 w.heap.size v y hy _ _ (by rw [World.cell?_alloc_new]; rfl) (by simp)).mono (by rintro e w' ⟨rfl, rfl⟩; exact ⟨rfl, by rw [World.setCell_alloc_new]; rfl⟩)

theorem resetAt2 (a b c d e : Int) (v : Int) (w : World) :
    Calls Try.prog 24 #[.pointer (some ⟨w.heap.size, 0, none⟩), .int .i64 2, .int .i64 v] (w.alloc (.cells (cells a b c d e) 63)) fun e' w' => e' = .returned (.int .i64 0) ∧ w' = w.alloc (.cells (cells v b c d e) 63) :=
  (reset2 w.heap.size v _ _ (by rw [World.cell?_alloc_new]; rfl) (by simp)).mono (by rintro e w' ⟨rfl, rfl⟩; exact ⟨rfl, by rw [World.setCell_alloc_new]; rfl⟩)

theorem resetAt3 (a b c d e : Int) (v : Int) (y : Int) (hy : IntKind.wrap .u64 v = y) (w : World) :
    Calls Try.prog 24 #[.pointer (some ⟨w.heap.size, 0, none⟩), .int .i64 3, .int .i64 v] (w.alloc (.cells (cells a b c d e) 63)) fun e' w' => e' = .returned (.int .i64 0) ∧ w' = w.alloc (.cells (cells a y c d e) 63) :=
  (reset3 w.heap.size v y hy _ _ (by rw [World.cell?_alloc_new]; rfl) (by simp)).mono (by rintro e w' ⟨rfl, rfl⟩; exact ⟨rfl, by rw [World.setCell_alloc_new]; rfl⟩)

theorem resetAt4 (a b c d e : Int) (v : Int) (y : Int) (hy : IntKind.wrap .u64 v = y) (w : World) :
    Calls Try.prog 24 #[.pointer (some ⟨w.heap.size, 0, none⟩), .int .i64 4, .int .i64 v] (w.alloc (.cells (cells a b c d e) 63)) fun e' w' => e' = .returned (.int .i64 0) ∧ w' = w.alloc (.cells (cells a b y d e) 63) :=
  (reset4 w.heap.size v y hy _ _ (by rw [World.cell?_alloc_new]; rfl) (by simp)).mono (by rintro e w' ⟨rfl, rfl⟩; exact ⟨rfl, by rw [World.setCell_alloc_new]; rfl⟩)

set_option maxRecDepth 100000 in
set_option maxHeartbeats 1000000 in
theorem edge_walk (v0 : Value) (w : World) :
    Calls Try.prog 10 #[v0] w fun e w' => e = .returned (.bool true) ∧ Up w w' := by
  go_enter Try.func10, Try.ntmps10
  go_wp2_with fail
  refine (new_any _).mono ?_
  rintro e w' ⟨rfl, rfl⟩
  go_wp2_with fail
  refine wp_loop_rounds 6 ?_
  rw [rounds_succ]; go_wp2_with fail
  refine (resetAt0 0 0 0 0 0 (-1) (-1) (by decide +kernel) w).mono ?_
  rintro e w' ⟨rfl, rfl⟩
  go_wp2_with fail
  rw [rounds_succ]; go_wp2_with fail
  refine (resetAt1 0 0 0 (-1) 0 (-1) 4294967295 (by decide +kernel) w).mono ?_
  rintro e w' ⟨rfl, rfl⟩
  go_wp2_with fail
  rw [rounds_succ]; go_wp2_with fail
  refine (resetAt2 0 0 0 (-1) 4294967295 (-1) w).mono ?_
  rintro e w' ⟨rfl, rfl⟩
  go_wp2_with fail
  rw [rounds_succ]; go_wp2_with fail
  refine (resetAt3 (-1) 0 0 (-1) 4294967295 (-1) 18446744073709551615 (by decide +kernel) w).mono ?_
  rintro e w' ⟨rfl, rfl⟩
  go_wp2_with fail
  rw [rounds_succ]; go_wp2_with fail
  refine (resetAt4 (-1) 18446744073709551615 0 (-1) 4294967295 (-1) 18446744073709551615 (by decide +kernel) w).mono ?_
  rintro e w' ⟨rfl, rfl⟩
  go_wp2_with fail
  rw [rounds_succ]; go_wp2_with fail
  refine (show_narrow w.heap.size _ (Holds.fresh _ _ _ _ _ _)).mono ?_
  rintro e w2 ⟨rfl, u⟩
  go_wp2_with fail
  go_ret
  exact ⟨rfl, (Up.alloc _ _ _).trans u⟩

end Go.Proofs.Qxb6500588a.narrows
