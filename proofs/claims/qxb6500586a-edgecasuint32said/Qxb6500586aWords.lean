/-
  THE WALKS of the flag words' plain steps (one goroutine): load, store, swap, cas of a word, and the methods over them.
-/
import Derived.Test.Qxb6500586aRows
import Derived.WalkKit
import Derived.ProofKit
import Derived.Laws.LoneSync
import Derived.KernelRfl
namespace Go.Proofs.Qxb6500586a.words
open Go.RowKit

/-- sync/atomic.SwapT: what stood is handed back; the new number is stored. -/
theorem run_call_swap {P : Program} {f : FuncId} {fn : Func} (hf : P.funcs[f]? = some fn) (hname : (fn.name == "runtime.NumGoroutine") = false) (hb : fn.body.isNone = true) (hn : Extern.findNext fn = none) (k : IntKind)
    (he : Extern.find fn = some (Extern.Atomic.swapT (.int k))) {a : Addr} {x y : Int} {w : World} (hc : w.cell? a = some (.int k x)) (hz : w.frozen? a = false) :
    (callFunc f #[.pointer (some a), .int k y]).run P w = .ok (.value (.int k x)) (w.setCell a (.int k y)) := by
  rw [run_callFunc_extern hf hname hb hn he]
  change (Sem.run P (do
    let a' ← asAddr (.pointer (some a))
    let old ← Extern.Atomic.read (.int k) a'
    store a' (.int k y) .atomic
    pure old) w).andThen _ = _
  simp [Extern.Atomic.read, asAddr, hc, hz, run_store P w a (.int k y) .atomic rfl, Result.andThen]

/-- A fresh set whose words hold these numbers. -/
def cells (a b c d e : Int) : Array Value := #[.int .i64 a, .int .u64 b, .int .u64 c, .int .i32 d, .int .u32 e, .int .u32 0, .slice none 0 0, .slice none 0 0, .slice none 0 0]

set_option maxHeartbeats 400000 in
theorem new_any (w : World) :
    Calls Try.prog 23 #[] w fun e w' => e = .returned (.pointer (some ⟨w.heap.size, 0, none⟩)) ∧ w' = w.alloc (.cells (cells 0 0 0 0 0) 60) := by
  go_enter Try.func23, Try.ntmps23
  go_wp2
  go_ret
  exact ⟨rfl, rfl⟩

/-! ### word 0 -/
set_option maxHeartbeats 400000 in
theorem load0 (b : Nat) (x : Int) (y : Int) (hy : wrap64 x = y) (w : World) (h0 : w.cell? ⟨b, 3, none⟩ = some (.int .i32 x)) :
    Calls Try.prog 38 #[.pointer (some ⟨b, 0, none⟩), .int .i64 0] w fun e w' => e = .returned (.int .i64 y) ∧ w' = w := by
  subst hy
  have hl := run_call_load (P := Try.prog) Try.func68 (by kernel_rfl) (by kernel_rfl) (by kernel_rfl) .i32 (by kernel_rfl) h0
  go_enter Try.func38, Try.ntmps38
  go_wp2
  go_ret
  exact ⟨rfl, rfl⟩

set_option maxHeartbeats 400000 in
theorem word0 (b : Nat) (x : Int) (y : Int) (hy : wrap64 x = y) (w : World) (h0 : w.cell? ⟨b, 3, none⟩ = some (.int .i32 x)) :
    Calls Try.prog 20 #[.pointer (some ⟨b, 0, none⟩), .int .i64 0] w fun e w' => e = .returned (.tuple #[.int .i64 y, .int .i64 0]) ∧ w' = w := by
  go_enter Try.func20, Try.ntmps20
  go_wp2_with fail
  refine (load0 b x y hy _ h0).mono ?_
  rintro e w' ⟨rfl, rfl⟩
  go_wp2_with fail
  go_ret2
  exact ⟨rfl, rfl⟩

set_option maxHeartbeats 400000 in
theorem store0 (b : Nat) (v : Int) (y : Int) (hy : wrap32 v = y) (u : Value) (w : World) (h0 : w.cell? ⟨b, 3, none⟩ = some u) (f0 : w.frozen? ⟨b, 3, none⟩ = false) :
    Calls Try.prog 41 #[.pointer (some ⟨b, 0, none⟩), .int .i64 0, .int .i64 v] w fun e w' => e = .returned (.tuple #[]) ∧ w' = w.setCell ⟨b, 3, none⟩ (.int .i32 y) := by
  have hl := run_call_store (P := Try.prog) Try.func82 (by kernel_rfl) (by kernel_rfl) (by kernel_rfl) (by kernel_rfl) (k := .i32) (y := y) h0 f0
  go_enter Try.func41, Try.ntmps41
  go_wp2
  go_end0
  exact ⟨rfl, rfl⟩

set_option maxHeartbeats 400000 in
theorem reset0 (b : Nat) (v : Int) (y : Int) (hy : wrap32 v = y) (u : Value) (w : World) (h0 : w.cell? ⟨b, 3, none⟩ = some u) (f0 : w.frozen? ⟨b, 3, none⟩ = false) :
    Calls Try.prog 27 #[.pointer (some ⟨b, 0, none⟩), .int .i64 0, .int .i64 v] w fun e w' => e = .returned (.int .i64 0) ∧ w' = w.setCell ⟨b, 3, none⟩ (.int .i32 y) := by
  go_enter Try.func27, Try.ntmps27
  go_wp2_with fail
  refine (store0 b v y hy u _ h0 f0).mono ?_
  rintro e w' ⟨rfl, rfl⟩
  go_wp2_with fail
  go_ret
  exact ⟨rfl, rfl⟩

set_option maxHeartbeats 400000 in
theorem holding0 (v : Int) (y : Int) (hy : wrap32 v = y) (w : World) :
    Calls Try.prog 17 #[.int .i64 0, .int .i64 v] w fun e w' => e = .returned (.pointer (some ⟨w.heap.size, 0, none⟩)) ∧ w' = w.alloc (.cells (cells 0 0 0 y 0) 60) := by
  go_enter Try.func17, Try.ntmps17
  go_wp2_with fail
  refine (new_any _).mono ?_
  rintro e w' ⟨rfl, rfl⟩
  go_wp2_with fail
  refine (reset0 w.heap.size v y hy _ _ (by rw [World.cell?_alloc_new]; rfl) (by simp)).mono ?_
  rintro e w' ⟨rfl, rfl⟩
  go_wp2_with fail
  go_ret
  exact ⟨rfl, rfl⟩

set_option maxHeartbeats 400000 in
theorem swap0 (b : Nat) (v : Int) (y : Int) (hy : wrap32 v = y) (x : Int) (z : Int) (hz : wrap64 x = z) (w : World) (h0 : w.cell? ⟨b, 3, none⟩ = some (.int .i32 x)) (f0 : w.frozen? ⟨b, 3, none⟩ = false) :
    Calls Try.prog 39 #[.pointer (some ⟨b, 0, none⟩), .int .i64 0, .int .i64 v] w fun e w' => e = .returned (.int .i64 z) ∧ w' = w.setCell ⟨b, 3, none⟩ (.int .i32 y) := by
  subst hz
  have hl := run_call_swap (P := Try.prog) Try.func73 (by kernel_rfl) (by kernel_rfl) (by kernel_rfl) .i32 (by kernel_rfl) (y := y) h0 f0
  go_enter Try.func39, Try.ntmps39
  go_wp2
  go_ret
  exact ⟨rfl, rfl⟩

set_option maxHeartbeats 400000 in
theorem trade0 (b : Nat) (v : Int) (y : Int) (hy : wrap32 v = y) (x : Int) (z : Int) (hz : wrap64 x = z) (w : World) (h0 : w.cell? ⟨b, 3, none⟩ = some (.int .i32 x)) (f0 : w.frozen? ⟨b, 3, none⟩ = false) :
    Calls Try.prog 24 #[.pointer (some ⟨b, 0, none⟩), .int .i64 0, .int .i64 v] w fun e w' => e = .returned (.tuple #[.int .i64 z, .int .i64 0]) ∧ w' = w.setCell ⟨b, 3, none⟩ (.int .i32 y) := by
  go_enter Try.func24, Try.ntmps24
  go_wp2_with fail
  refine (swap0 b v y hy x z hz _ h0 f0).mono ?_
  rintro e w' ⟨rfl, rfl⟩
  go_wp2_with fail
  go_ret2
  exact ⟨rfl, rfl⟩

set_option maxHeartbeats 400000 in
theorem casHit0 (b : Nat) (o : Int) (p : Int) (hp : wrap32 o = p) (v : Int) (y : Int) (hy : wrap32 v = y) (w : World) (h0 : w.cell? ⟨b, 3, none⟩ = some (.int .i32 p)) (f0 : w.frozen? ⟨b, 3, none⟩ = false) :
    Calls Try.prog 40 #[.pointer (some ⟨b, 0, none⟩), .int .i64 0, .int .i64 o, .int .i64 v] w fun e w' => e = .returned (.bool true) ∧ w' = w.setCell ⟨b, 3, none⟩ (.int .i32 y) := by
  have hl := run_call_cas_hit (P := Try.prog) Try.func77 (by kernel_rfl) (by kernel_rfl) (by kernel_rfl) .i32 (by kernel_rfl) (y := y) h0 f0
  go_enter Try.func40, Try.ntmps40
  go_wp2
  go_ret
  exact ⟨rfl, rfl⟩

set_option maxHeartbeats 400000 in
theorem claimHit0 (b : Nat) (o : Int) (p : Int) (hp : wrap32 o = p) (v : Int) (y : Int) (hy : wrap32 v = y) (w : World) (h0 : w.cell? ⟨b, 3, none⟩ = some (.int .i32 p)) (f0 : w.frozen? ⟨b, 3, none⟩ = false) :
    Calls Try.prog 25 #[.pointer (some ⟨b, 0, none⟩), .int .i64 0, .int .i64 o, .int .i64 v] w fun e w' => e = .returned (.tuple #[.int .i64 1, .int .i64 0]) ∧ w' = w.setCell ⟨b, 3, none⟩ (.int .i32 y) := by
  go_enter Try.func25, Try.ntmps25
  go_wp2_with fail
  refine (casHit0 b o p hp v y hy _ h0 f0).mono ?_
  rintro e w' ⟨rfl, rfl⟩
  go_wp2_with fail
  go_ret2
  exact ⟨rfl, rfl⟩

set_option maxHeartbeats 400000 in
theorem casMiss0 (b : Nat) (o : Int) (p : Int) (hp : wrap32 o = p) (v : Int) (y : Int) (hy : wrap32 v = y) (x : Int) (w : World) (h0 : w.cell? ⟨b, 3, none⟩ = some (.int .i32 x)) (f0 : w.frozen? ⟨b, 3, none⟩ = false) (hne : ¬ x = p) :
    Calls Try.prog 40 #[.pointer (some ⟨b, 0, none⟩), .int .i64 0, .int .i64 o, .int .i64 v] w fun e w' => e = .returned (.bool false) ∧ w' = w := by
  have hl := run_call_cas_miss (P := Try.prog) Try.func77 (by kernel_rfl) (by kernel_rfl) (by kernel_rfl) .i32 (by kernel_rfl) (o := p) (y := y) h0 f0 hne
  go_enter Try.func40, Try.ntmps40
  go_wp2
  go_ret
  exact ⟨rfl, rfl⟩

set_option maxHeartbeats 400000 in
theorem claimMiss0 (b : Nat) (o : Int) (p : Int) (hp : wrap32 o = p) (v : Int) (y : Int) (hy : wrap32 v = y) (x : Int) (w : World) (h0 : w.cell? ⟨b, 3, none⟩ = some (.int .i32 x)) (f0 : w.frozen? ⟨b, 3, none⟩ = false) (hne : ¬ x = p) :
    Calls Try.prog 25 #[.pointer (some ⟨b, 0, none⟩), .int .i64 0, .int .i64 o, .int .i64 v] w fun e w' => e = .returned (.tuple #[.int .i64 0, .int .i64 0]) ∧ w' = w := by
  go_enter Try.func25, Try.ntmps25
  go_wp2_with fail
  refine (casMiss0 b o p hp v y hy x _ h0 f0 hne).mono ?_
  rintro e w' ⟨rfl, rfl⟩
  go_wp2_with fail
  go_ret2
  exact ⟨rfl, rfl⟩

/-! ### word 1 -/
set_option maxHeartbeats 400000 in
theorem load1 (b : Nat) (x : Int) (y : Int) (hy : wrap64 x = y) (w : World) (h0 : w.cell? ⟨b, 4, none⟩ = some (.int .u32 x)) :
    Calls Try.prog 38 #[.pointer (some ⟨b, 0, none⟩), .int .i64 1] w fun e w' => e = .returned (.int .i64 y) ∧ w' = w := by
  subst hy
  have hl := run_call_load (P := Try.prog) Try.func69 (by kernel_rfl) (by kernel_rfl) (by kernel_rfl) .u32 (by kernel_rfl) h0
  go_enter Try.func38, Try.ntmps38
  go_wp2
  go_ret
  exact ⟨rfl, rfl⟩

set_option maxHeartbeats 400000 in
theorem word1 (b : Nat) (x : Int) (y : Int) (hy : wrap64 x = y) (w : World) (h0 : w.cell? ⟨b, 4, none⟩ = some (.int .u32 x)) :
    Calls Try.prog 20 #[.pointer (some ⟨b, 0, none⟩), .int .i64 1] w fun e w' => e = .returned (.tuple #[.int .i64 y, .int .i64 0]) ∧ w' = w := by
  go_enter Try.func20, Try.ntmps20
  go_wp2_with fail
  refine (load1 b x y hy _ h0).mono ?_
  rintro e w' ⟨rfl, rfl⟩
  go_wp2_with fail
  go_ret2
  exact ⟨rfl, rfl⟩

set_option maxHeartbeats 400000 in
theorem store1 (b : Nat) (v : Int) (y : Int) (hy : IntKind.wrap .u32 v = y) (u : Value) (w : World) (h0 : w.cell? ⟨b, 4, none⟩ = some u) (f0 : w.frozen? ⟨b, 4, none⟩ = false) :
    Calls Try.prog 41 #[.pointer (some ⟨b, 0, none⟩), .int .i64 1, .int .i64 v] w fun e w' => e = .returned (.tuple #[]) ∧ w' = w.setCell ⟨b, 4, none⟩ (.int .u32 y) := by
  have hl := run_call_store (P := Try.prog) Try.func83 (by kernel_rfl) (by kernel_rfl) (by kernel_rfl) (by kernel_rfl) (k := .u32) (y := y) h0 f0
  go_enter Try.func41, Try.ntmps41
  go_wp2
  go_end0
  exact ⟨rfl, rfl⟩

set_option maxHeartbeats 400000 in
theorem reset1 (b : Nat) (v : Int) (y : Int) (hy : IntKind.wrap .u32 v = y) (u : Value) (w : World) (h0 : w.cell? ⟨b, 4, none⟩ = some u) (f0 : w.frozen? ⟨b, 4, none⟩ = false) :
    Calls Try.prog 27 #[.pointer (some ⟨b, 0, none⟩), .int .i64 1, .int .i64 v] w fun e w' => e = .returned (.int .i64 0) ∧ w' = w.setCell ⟨b, 4, none⟩ (.int .u32 y) := by
  go_enter Try.func27, Try.ntmps27
  go_wp2_with fail
  refine (store1 b v y hy u _ h0 f0).mono ?_
  rintro e w' ⟨rfl, rfl⟩
  go_wp2_with fail
  go_ret
  exact ⟨rfl, rfl⟩

set_option maxHeartbeats 400000 in
theorem holding1 (v : Int) (y : Int) (hy : IntKind.wrap .u32 v = y) (w : World) :
    Calls Try.prog 17 #[.int .i64 1, .int .i64 v] w fun e w' => e = .returned (.pointer (some ⟨w.heap.size, 0, none⟩)) ∧ w' = w.alloc (.cells (cells 0 0 0 0 y) 60) := by
  go_enter Try.func17, Try.ntmps17
  go_wp2_with fail
  refine (new_any _).mono ?_
  rintro e w' ⟨rfl, rfl⟩
  go_wp2_with fail
  refine (reset1 w.heap.size v y hy _ _ (by rw [World.cell?_alloc_new]; rfl) (by simp)).mono ?_
  rintro e w' ⟨rfl, rfl⟩
  go_wp2_with fail
  go_ret
  exact ⟨rfl, rfl⟩

set_option maxHeartbeats 400000 in
theorem swap1 (b : Nat) (v : Int) (y : Int) (hy : IntKind.wrap .u32 v = y) (x : Int) (z : Int) (hz : wrap64 x = z) (w : World) (h0 : w.cell? ⟨b, 4, none⟩ = some (.int .u32 x)) (f0 : w.frozen? ⟨b, 4, none⟩ = false) :
    Calls Try.prog 39 #[.pointer (some ⟨b, 0, none⟩), .int .i64 1, .int .i64 v] w fun e w' => e = .returned (.int .i64 z) ∧ w' = w.setCell ⟨b, 4, none⟩ (.int .u32 y) := by
  subst hz
  have hl := run_call_swap (P := Try.prog) Try.func35 (by kernel_rfl) (by kernel_rfl) (by kernel_rfl) .u32 (by kernel_rfl) (y := y) h0 f0
  go_enter Try.func39, Try.ntmps39
  go_wp2
  go_ret
  exact ⟨rfl, rfl⟩

set_option maxHeartbeats 400000 in
theorem trade1 (b : Nat) (v : Int) (y : Int) (hy : IntKind.wrap .u32 v = y) (x : Int) (z : Int) (hz : wrap64 x = z) (w : World) (h0 : w.cell? ⟨b, 4, none⟩ = some (.int .u32 x)) (f0 : w.frozen? ⟨b, 4, none⟩ = false) :
    Calls Try.prog 24 #[.pointer (some ⟨b, 0, none⟩), .int .i64 1, .int .i64 v] w fun e w' => e = .returned (.tuple #[.int .i64 z, .int .i64 0]) ∧ w' = w.setCell ⟨b, 4, none⟩ (.int .u32 y) := by
  go_enter Try.func24, Try.ntmps24
  go_wp2_with fail
  refine (swap1 b v y hy x z hz _ h0 f0).mono ?_
  rintro e w' ⟨rfl, rfl⟩
  go_wp2_with fail
  go_ret2
  exact ⟨rfl, rfl⟩

set_option maxHeartbeats 400000 in
theorem casHit1 (b : Nat) (o : Int) (p : Int) (hp : IntKind.wrap .u32 o = p) (v : Int) (y : Int) (hy : IntKind.wrap .u32 v = y) (w : World) (h0 : w.cell? ⟨b, 4, none⟩ = some (.int .u32 p)) (f0 : w.frozen? ⟨b, 4, none⟩ = false) :
    Calls Try.prog 40 #[.pointer (some ⟨b, 0, none⟩), .int .i64 1, .int .i64 o, .int .i64 v] w fun e w' => e = .returned (.bool true) ∧ w' = w.setCell ⟨b, 4, none⟩ (.int .u32 y) := by
  have hl := run_call_cas_hit (P := Try.prog) Try.func78 (by kernel_rfl) (by kernel_rfl) (by kernel_rfl) .u32 (by kernel_rfl) (y := y) h0 f0
  go_enter Try.func40, Try.ntmps40
  go_wp2
  go_ret
  exact ⟨rfl, rfl⟩

set_option maxHeartbeats 400000 in
theorem claimHit1 (b : Nat) (o : Int) (p : Int) (hp : IntKind.wrap .u32 o = p) (v : Int) (y : Int) (hy : IntKind.wrap .u32 v = y) (w : World) (h0 : w.cell? ⟨b, 4, none⟩ = some (.int .u32 p)) (f0 : w.frozen? ⟨b, 4, none⟩ = false) :
    Calls Try.prog 25 #[.pointer (some ⟨b, 0, none⟩), .int .i64 1, .int .i64 o, .int .i64 v] w fun e w' => e = .returned (.tuple #[.int .i64 1, .int .i64 0]) ∧ w' = w.setCell ⟨b, 4, none⟩ (.int .u32 y) := by
  go_enter Try.func25, Try.ntmps25
  go_wp2_with fail
  refine (casHit1 b o p hp v y hy _ h0 f0).mono ?_
  rintro e w' ⟨rfl, rfl⟩
  go_wp2_with fail
  go_ret2
  exact ⟨rfl, rfl⟩

set_option maxHeartbeats 400000 in
theorem casMiss1 (b : Nat) (o : Int) (p : Int) (hp : IntKind.wrap .u32 o = p) (v : Int) (y : Int) (hy : IntKind.wrap .u32 v = y) (x : Int) (w : World) (h0 : w.cell? ⟨b, 4, none⟩ = some (.int .u32 x)) (f0 : w.frozen? ⟨b, 4, none⟩ = false) (hne : ¬ x = p) :
    Calls Try.prog 40 #[.pointer (some ⟨b, 0, none⟩), .int .i64 1, .int .i64 o, .int .i64 v] w fun e w' => e = .returned (.bool false) ∧ w' = w := by
  have hl := run_call_cas_miss (P := Try.prog) Try.func78 (by kernel_rfl) (by kernel_rfl) (by kernel_rfl) .u32 (by kernel_rfl) (o := p) (y := y) h0 f0 hne
  go_enter Try.func40, Try.ntmps40
  go_wp2
  go_ret
  exact ⟨rfl, rfl⟩

set_option maxHeartbeats 400000 in
theorem claimMiss1 (b : Nat) (o : Int) (p : Int) (hp : IntKind.wrap .u32 o = p) (v : Int) (y : Int) (hy : IntKind.wrap .u32 v = y) (x : Int) (w : World) (h0 : w.cell? ⟨b, 4, none⟩ = some (.int .u32 x)) (f0 : w.frozen? ⟨b, 4, none⟩ = false) (hne : ¬ x = p) :
    Calls Try.prog 25 #[.pointer (some ⟨b, 0, none⟩), .int .i64 1, .int .i64 o, .int .i64 v] w fun e w' => e = .returned (.tuple #[.int .i64 0, .int .i64 0]) ∧ w' = w := by
  go_enter Try.func25, Try.ntmps25
  go_wp2_with fail
  refine (casMiss1 b o p hp v y hy x _ h0 f0 hne).mono ?_
  rintro e w' ⟨rfl, rfl⟩
  go_wp2_with fail
  go_ret2
  exact ⟨rfl, rfl⟩

end Go.Proofs.Qxb6500586a.words
