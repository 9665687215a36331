/-
  THE WALKS of api.Itoa at the two numbers that EdgeStoreNarrows shows: its loop has a known number of rounds there.
-/
import Derived.Test.Qxb6500588aRows
import Derived.WalkKit
import Derived.ProofKit
import Derived.LoopN
import Derived.KernelRfl
namespace Go.Proofs.Qxb6500588a.itoa
open Go.RowKit

theorem conv_m1 (w : World) : (convert 102 9 (.slice (some ⟨w.heap.size, 22, none⟩) 2 2)).run Try.prog (w.alloc (.cells #[.int .u8 0, .int .u8 0, .int .u8 0, .int .u8 0, .int .u8 0, .int .u8 0, .int .u8 0, .int .u8 0, .int .u8 0, .int .u8 0, .int .u8 0, .int .u8 0, .int .u8 0, .int .u8 0, .int .u8 0, .int .u8 0, .int .u8 0, .int .u8 0, .int .u8 0, .int .u8 0, .int .u8 0, .int .u8 0, .int .u8 45, .int .u8 49] 101)) = .ok (.string ⟨#[45, 49]⟩) (w.alloc (.cells #[.int .u8 0, .int .u8 0, .int .u8 0, .int .u8 0, .int .u8 0, .int .u8 0, .int .u8 0, .int .u8 0, .int .u8 0, .int .u8 0, .int .u8 0, .int .u8 0, .int .u8 0, .int .u8 0, .int .u8 0, .int .u8 0, .int .u8 0, .int .u8 0, .int .u8 0, .int .u8 0, .int .u8 0, .int .u8 0, .int .u8 45, .int .u8 49] 101)) := by
  have h := run_convert_bytes_arg (P := Try.prog) (w.alloc (.cells #[.int .u8 0, .int .u8 0, .int .u8 0, .int .u8 0, .int .u8 0, .int .u8 0, .int .u8 0, .int .u8 0, .int .u8 0, .int .u8 0, .int .u8 0, .int .u8 0, .int .u8 0, .int .u8 0, .int .u8 0, .int .u8 0, .int .u8 0, .int .u8 0, .int .u8 0, .int .u8 0, .int .u8 0, .int .u8 0, .int .u8 45, .int .u8 49] 101)) 102 5 Try.underlying102 Try.underlying5 w.heap.size 22 2 2 [45, 49] rfl (fun i hi => by
    rw [World.cell?_alloc_new]
    match i, hi with
    | 0, _ => rfl
    | 1, _ => rfl) 9 Try.underlying9
  exact h

set_option maxRecDepth 100000 in
set_option maxHeartbeats 4000000 in
/-- Itoa(-1). -/
theorem itoa_m1 (w : World) :
    Calls Try.prog 37 #[.int .i64 (-1)] w fun e w' => e = .returned (.string ⟨#[45, 49]⟩) ∧ ∃ c, w' = w.alloc (.cells c 101) := by
  have hcv := conv_m1 w
  go_enter Try.func37, Try.ntmps37
  go_wp2
  refine wp_loop_rounds 2 ?_
  rw [rounds_succ]; go_wp2
  rw [rounds_succ]; go_wp2
  go_ret
  exact ⟨rfl, _, rfl⟩

theorem conv_u32 (w : World) : (convert 102 9 (.slice (some ⟨w.heap.size, 14, none⟩) 10 10)).run Try.prog (w.alloc (.cells #[.int .u8 0, .int .u8 0, .int .u8 0, .int .u8 0, .int .u8 0, .int .u8 0, .int .u8 0, .int .u8 0, .int .u8 0, .int .u8 0, .int .u8 0, .int .u8 0, .int .u8 0, .int .u8 0, .int .u8 52, .int .u8 50, .int .u8 57, .int .u8 52, .int .u8 57, .int .u8 54, .int .u8 55, .int .u8 50, .int .u8 57, .int .u8 53] 101)) = .ok (.string ⟨#[52, 50, 57, 52, 57, 54, 55, 50, 57, 53]⟩) (w.alloc (.cells #[.int .u8 0, .int .u8 0, .int .u8 0, .int .u8 0, .int .u8 0, .int .u8 0, .int .u8 0, .int .u8 0, .int .u8 0, .int .u8 0, .int .u8 0, .int .u8 0, .int .u8 0, .int .u8 0, .int .u8 52, .int .u8 50, .int .u8 57, .int .u8 52, .int .u8 57, .int .u8 54, .int .u8 55, .int .u8 50, .int .u8 57, .int .u8 53] 101)) := by
  have h := run_convert_bytes_arg (P := Try.prog) (w.alloc (.cells #[.int .u8 0, .int .u8 0, .int .u8 0, .int .u8 0, .int .u8 0, .int .u8 0, .int .u8 0, .int .u8 0, .int .u8 0, .int .u8 0, .int .u8 0, .int .u8 0, .int .u8 0, .int .u8 0, .int .u8 52, .int .u8 50, .int .u8 57, .int .u8 52, .int .u8 57, .int .u8 54, .int .u8 55, .int .u8 50, .int .u8 57, .int .u8 53] 101)) 102 5 Try.underlying102 Try.underlying5 w.heap.size 14 10 10 [52, 50, 57, 52, 57, 54, 55, 50, 57, 53] rfl (fun i hi => by
    rw [World.cell?_alloc_new]
    match i, hi with
    | 0, _ => rfl
    | 1, _ => rfl
    | 2, _ => rfl
    | 3, _ => rfl
    | 4, _ => rfl
    | 5, _ => rfl
    | 6, _ => rfl
    | 7, _ => rfl
    | 8, _ => rfl
    | 9, _ => rfl) 9 Try.underlying9
  exact h

set_option maxRecDepth 100000 in
set_option maxHeartbeats 4000000 in
/-- Itoa(4294967295). -/
theorem itoa_u32 (w : World) :
    Calls Try.prog 37 #[.int .i64 4294967295] w fun e w' => e = .returned (.string ⟨#[52, 50, 57, 52, 57, 54, 55, 50, 57, 53]⟩) ∧ ∃ c, w' = w.alloc (.cells c 101) := by
  have hcv := conv_u32 w
  go_enter Try.func37, Try.ntmps37
  go_wp2
  refine wp_loop_rounds 11 ?_
  rw [rounds_succ]; go_wp2
  rw [rounds_succ]; go_wp2
  rw [rounds_succ]; go_wp2
  rw [rounds_succ]; go_wp2
  rw [rounds_succ]; go_wp2
  rw [rounds_succ]; go_wp2
  rw [rounds_succ]; go_wp2
  rw [rounds_succ]; go_wp2
  rw [rounds_succ]; go_wp2
  rw [rounds_succ]; go_wp2
  rw [rounds_succ]; go_wp2
  go_ret
  exact ⟨rfl, _, rfl⟩

end Go.Proofs.Qxb6500588a.itoa
