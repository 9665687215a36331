/-
  THE WALKS of the flag words' plain steps (one goroutine): load, store, swap, cas of a word, and the methods over them.
-/
import Derived.Test.Qxb6500587aRows
import Derived.WalkKit
import Derived.ProofKit
import Derived.Laws.LoneSync
import Derived.KernelRfl
namespace Go.Proofs.Qxb6500587a.words
open Go.RowKit

/-- sync/atomic.SwapT: what stood is handed back; the new number is stored. -/
theorem run_call_swap {P : Program} {f : FuncId} {fn : Func} (hf : P.funcs[f]? = some fn) (hname : (fn.name == "runtime.NumGoroutine") = false) (hb : fn.body.isNone = true) (hn : Extern.findNext fn = none) (k : IntKind)
    (he : Extern.find fn = some (Extern.Atomic.swapT (.int k))) {a : Addr} {x y : Int} {w : World} (hc : w.cell? a = some (.int k x)) (hz : w.frozen? a = false) :
    (callFunc f #[.pointer (some a), .int k y]).run P w = .ok (.value (.int k x)) (w.setCell a (.int k y)) := by
  rw [run_callFunc_extern hf hname hb hn he]
  change (Sem.run P (do
    let a' ← asAddr (.pointer (some a))
    let old ← Extern.Atomic.read (.int k) a'
    store a' (.int k y) .atomic
    pure old) w).andThen _ = _
  simp [Extern.Atomic.read, asAddr, hc, hz, run_store P w a (.int k y) .atomic rfl, Result.andThen]

/-- A fresh set whose words hold these numbers. -/
def cells (a b c d e : Int) : Array Value := #[.int .i64 a, .int .u64 b, .int .u64 c, .int .i32 d, .int .u32 e, .int .u32 0, .slice none 0 0, .slice none 0 0, .slice none 0 0]

set_option maxHeartbeats 400000 in
theorem new_any (w : World) :
    Calls Try.prog 23 #[] w fun e w' => e = .returned (.pointer (some ⟨w.heap.size, 0, none⟩)) ∧ w' = w.alloc (.cells (cells 0 0 0 0 0) 60) := by
  go_enter Try.func23, Try.ntmps23
  go_wp2
  go_ret
  exact ⟨rfl, rfl⟩

/-! ### word 2 -/
set_option maxHeartbeats 400000 in
theorem load2 (b : Nat) (x : Int) (w : World) (h0 : w.cell? ⟨b, 0, none⟩ = some (.int .i64 x)) :
    Calls Try.prog 38 #[.pointer (some ⟨b, 0, none⟩), .int .i64 2] w fun e w' => e = .returned (.int .i64 x) ∧ w' = w := by
  have hl := run_call_load (P := Try.prog) Try.func70 (by kernel_rfl) (by kernel_rfl) (by kernel_rfl) .i64 (by kernel_rfl) h0
  go_enter Try.func38, Try.ntmps38
  go_wp2
  go_ret
  exact ⟨rfl, rfl⟩

set_option maxHeartbeats 400000 in
theorem word2 (b : Nat) (x : Int) (w : World) (h0 : w.cell? ⟨b, 0, none⟩ = some (.int .i64 x)) :
    Calls Try.prog 20 #[.pointer (some ⟨b, 0, none⟩), .int .i64 2] w fun e w' => e = .returned (.tuple #[.int .i64 x, .int .i64 0]) ∧ w' = w := by
  go_enter Try.func20, Try.ntmps20
  go_wp2_with fail
  refine (load2 b x _ h0).mono ?_
  rintro e w' ⟨rfl, rfl⟩
  go_wp2_with fail
  go_ret2
  exact ⟨rfl, rfl⟩

set_option maxHeartbeats 400000 in
theorem store2 (b : Nat) (v : Int) (u : Value) (w : World) (h0 : w.cell? ⟨b, 0, none⟩ = some u) (f0 : w.frozen? ⟨b, 0, none⟩ = false) :
    Calls Try.prog 41 #[.pointer (some ⟨b, 0, none⟩), .int .i64 2, .int .i64 v] w fun e w' => e = .returned (.tuple #[]) ∧ w' = w.setCell ⟨b, 0, none⟩ (.int .i64 v) := by
  have hl := run_call_store (P := Try.prog) Try.func84 (by kernel_rfl) (by kernel_rfl) (by kernel_rfl) (by kernel_rfl) (k := .i64) (y := v) h0 f0
  go_enter Try.func41, Try.ntmps41
  go_wp2
  go_end0
  exact ⟨rfl, rfl⟩

set_option maxHeartbeats 400000 in
theorem reset2 (b : Nat) (v : Int) (u : Value) (w : World) (h0 : w.cell? ⟨b, 0, none⟩ = some u) (f0 : w.frozen? ⟨b, 0, none⟩ = false) :
    Calls Try.prog 27 #[.pointer (some ⟨b, 0, none⟩), .int .i64 2, .int .i64 v] w fun e w' => e = .returned (.int .i64 0) ∧ w' = w.setCell ⟨b, 0, none⟩ (.int .i64 v) := by
  go_enter Try.func27, Try.ntmps27
  go_wp2_with fail
  refine (store2 b v u _ h0 f0).mono ?_
  rintro e w' ⟨rfl, rfl⟩
  go_wp2_with fail
  go_ret
  exact ⟨rfl, rfl⟩

set_option maxHeartbeats 400000 in
theorem holding2 (v : Int) (w : World) :
    Calls Try.prog 17 #[.int .i64 2, .int .i64 v] w fun e w' => e = .returned (.pointer (some ⟨w.heap.size, 0, none⟩)) ∧ w' = w.alloc (.cells (cells v 0 0 0 0) 60) := by
  go_enter Try.func17, Try.ntmps17
  go_wp2_with fail
  refine (new_any _).mono ?_
  rintro e w' ⟨rfl, rfl⟩
  go_wp2_with fail
  refine (reset2 w.heap.size v _ _ (by rw [World.cell?_alloc_new]; rfl) (by simp)).mono ?_
  rintro e w' ⟨rfl, rfl⟩
  go_wp2_with fail
  go_ret
  exact ⟨rfl, rfl⟩

set_option maxHeartbeats 400000 in
theorem swap2 (b : Nat) (v : Int) (x : Int) (w : World) (h0 : w.cell? ⟨b, 0, none⟩ = some (.int .i64 x)) (f0 : w.frozen? ⟨b, 0, none⟩ = false) :
    Calls Try.prog 39 #[.pointer (some ⟨b, 0, none⟩), .int .i64 2, .int .i64 v] w fun e w' => e = .returned (.int .i64 x) ∧ w' = w.setCell ⟨b, 0, none⟩ (.int .i64 v) := by
  have hl := run_call_swap (P := Try.prog) Try.func74 (by kernel_rfl) (by kernel_rfl) (by kernel_rfl) .i64 (by kernel_rfl) (y := v) h0 f0
  go_enter Try.func39, Try.ntmps39
  go_wp2
  go_ret
  exact ⟨rfl, rfl⟩

set_option maxHeartbeats 400000 in
theorem trade2 (b : Nat) (v : Int) (x : Int) (w : World) (h0 : w.cell? ⟨b, 0, none⟩ = some (.int .i64 x)) (f0 : w.frozen? ⟨b, 0, none⟩ = false) :
    Calls Try.prog 24 #[.pointer (some ⟨b, 0, none⟩), .int .i64 2, .int .i64 v] w fun e w' => e = .returned (.tuple #[.int .i64 x, .int .i64 0]) ∧ w' = w.setCell ⟨b, 0, none⟩ (.int .i64 v) := by
  go_enter Try.func24, Try.ntmps24
  go_wp2_with fail
  refine (swap2 b v x _ h0 f0).mono ?_
  rintro e w' ⟨rfl, rfl⟩
  go_wp2_with fail
  go_ret2
  exact ⟨rfl, rfl⟩

set_option maxHeartbeats 400000 in
theorem casHit2 (b : Nat) (o : Int) (v : Int) (w : World) (h0 : w.cell? ⟨b, 0, none⟩ = some (.int .i64 o)) (f0 : w.frozen? ⟨b, 0, none⟩ = false) :
    Calls Try.prog 40 #[.pointer (some ⟨b, 0, none⟩), .int .i64 2, .int .i64 o, .int .i64 v] w fun e w' => e = .returned (.bool true) ∧ w' = w.setCell ⟨b, 0, none⟩ (.int .i64 v) := by
  have hl := run_call_cas_hit (P := Try.prog) Try.func79 (by kernel_rfl) (by kernel_rfl) (by kernel_rfl) .i64 (by kernel_rfl) (y := v) h0 f0
  go_enter Try.func40, Try.ntmps40
  go_wp2
  go_ret
  exact ⟨rfl, rfl⟩

set_option maxHeartbeats 400000 in
theorem claimHit2 (b : Nat) (o : Int) (v : Int) (w : World) (h0 : w.cell? ⟨b, 0, none⟩ = some (.int .i64 o)) (f0 : w.frozen? ⟨b, 0, none⟩ = false) :
    Calls Try.prog 25 #[.pointer (some ⟨b, 0, none⟩), .int .i64 2, .int .i64 o, .int .i64 v] w fun e w' => e = .returned (.tuple #[.int .i64 1, .int .i64 0]) ∧ w' = w.setCell ⟨b, 0, none⟩ (.int .i64 v) := by
  go_enter Try.func25, Try.ntmps25
  go_wp2_with fail
  refine (casHit2 b o v _ h0 f0).mono ?_
  rintro e w' ⟨rfl, rfl⟩
  go_wp2_with fail
  go_ret2
  exact ⟨rfl, rfl⟩

set_option maxHeartbeats 400000 in
theorem casMiss2 (b : Nat) (o : Int) (v : Int) (x : Int) (w : World) (h0 : w.cell? ⟨b, 0, none⟩ = some (.int .i64 x)) (f0 : w.frozen? ⟨b, 0, none⟩ = false) (hne : ¬ x = o) :
    Calls Try.prog 40 #[.pointer (some ⟨b, 0, none⟩), .int .i64 2, .int .i64 o, .int .i64 v] w fun e w' => e = .returned (.bool false) ∧ w' = w := by
  have hl := run_call_cas_miss (P := Try.prog) Try.func79 (by kernel_rfl) (by kernel_rfl) (by kernel_rfl) .i64 (by kernel_rfl) (o := o) (y := v) h0 f0 hne
  go_enter Try.func40, Try.ntmps40
  go_wp2
  go_ret
  exact ⟨rfl, rfl⟩

set_option maxHeartbeats 400000 in
theorem claimMiss2 (b : Nat) (o : Int) (v : Int) (x : Int) (w : World) (h0 : w.cell? ⟨b, 0, none⟩ = some (.int .i64 x)) (f0 : w.frozen? ⟨b, 0, none⟩ = false) (hne : ¬ x = o) :
    Calls Try.prog 25 #[.pointer (some ⟨b, 0, none⟩), .int .i64 2, .int .i64 o, .int .i64 v] w fun e w' => e = .returned (.tuple #[.int .i64 0, .int .i64 0]) ∧ w' = w := by
  go_enter Try.func25, Try.ntmps25
  go_wp2_with fail
  refine (casMiss2 b o v x _ h0 f0 hne).mono ?_
  rintro e w' ⟨rfl, rfl⟩
  go_wp2_with fail
  go_ret2
  exact ⟨rfl, rfl⟩

/-! ### word 3 -/
set_option maxHeartbeats 400000 in
theorem load3 (b : Nat) (x : Int) (y : Int) (hy : wrap64 x = y) (w : World) (h0 : w.cell? ⟨b, 1, none⟩ = some (.int .u64 x)) :
    Calls Try.prog 38 #[.pointer (some ⟨b, 0, none⟩), .int .i64 3] w fun e w' => e = .returned (.int .i64 y) ∧ w' = w := by
  subst hy
  have hl := run_call_load (P := Try.prog) Try.func71 (by kernel_rfl) (by kernel_rfl) (by kernel_rfl) .u64 (by kernel_rfl) h0
  go_enter Try.func38, Try.ntmps38
  go_wp2
  go_ret
  exact ⟨rfl, rfl⟩

set_option maxHeartbeats 400000 in
theorem word3 (b : Nat) (x : Int) (y : Int) (hy : wrap64 x = y) (w : World) (h0 : w.cell? ⟨b, 1, none⟩ = some (.int .u64 x)) :
    Calls Try.prog 20 #[.pointer (some ⟨b, 0, none⟩), .int .i64 3] w fun e w' => e = .returned (.tuple #[.int .i64 y, .int .i64 0]) ∧ w' = w := by
  go_enter Try.func20, Try.ntmps20
  go_wp2_with fail
  refine (load3 b x y hy _ h0).mono ?_
  rintro e w' ⟨rfl, rfl⟩
  go_wp2_with fail
  go_ret2
  exact ⟨rfl, rfl⟩

set_option maxHeartbeats 400000 in
theorem store3 (b : Nat) (v : Int) (y : Int) (hy : IntKind.wrap .u64 v = y) (u : Value) (w : World) (h0 : w.cell? ⟨b, 1, none⟩ = some u) (f0 : w.frozen? ⟨b, 1, none⟩ = false) :
    Calls Try.prog 41 #[.pointer (some ⟨b, 0, none⟩), .int .i64 3, .int .i64 v] w fun e w' => e = .returned (.tuple #[]) ∧ w' = w.setCell ⟨b, 1, none⟩ (.int .u64 y) := by
  have hl := run_call_store (P := Try.prog) Try.func85 (by kernel_rfl) (by kernel_rfl) (by kernel_rfl) (by kernel_rfl) (k := .u64) (y := y) h0 f0
  go_enter Try.func41, Try.ntmps41
  go_wp2
  go_end0
  exact ⟨rfl, rfl⟩

set_option maxHeartbeats 400000 in
theorem reset3 (b : Nat) (v : Int) (y : Int) (hy : IntKind.wrap .u64 v = y) (u : Value) (w : World) (h0 : w.cell? ⟨b, 1, none⟩ = some u) (f0 : w.frozen? ⟨b, 1, none⟩ = false) :
    Calls Try.prog 27 #[.pointer (some ⟨b, 0, none⟩), .int .i64 3, .int .i64 v] w fun e w' => e = .returned (.int .i64 0) ∧ w' = w.setCell ⟨b, 1, none⟩ (.int .u64 y) := by
  go_enter Try.func27, Try.ntmps27
  go_wp2_with fail
  refine (store3 b v y hy u _ h0 f0).mono ?_
  rintro e w' ⟨rfl, rfl⟩
  go_wp2_with fail
  go_ret
  exact ⟨rfl, rfl⟩

set_option maxHeartbeats 400000 in
theorem holding3 (v : Int) (y : Int) (hy : IntKind.wrap .u64 v = y) (w : World) :
    Calls Try.prog 17 #[.int .i64 3, .int .i64 v] w fun e w' => e = .returned (.pointer (some ⟨w.heap.size, 0, none⟩)) ∧ w' = w.alloc (.cells (cells 0 y 0 0 0) 60) := by
  go_enter Try.func17, Try.ntmps17
  go_wp2_with fail
  refine (new_any _).mono ?_
  rintro e w' ⟨rfl, rfl⟩
  go_wp2_with fail
  refine (reset3 w.heap.size v y hy _ _ (by rw [World.cell?_alloc_new]; rfl) (by simp)).mono ?_
  rintro e w' ⟨rfl, rfl⟩
  go_wp2_with fail
  go_ret
  exact ⟨rfl, rfl⟩

set_option maxHeartbeats 400000 in
theorem swap3 (b : Nat) (v : Int) (y : Int) (hy : IntKind.wrap .u64 v = y) (x : Int) (z : Int) (hz : wrap64 x = z) (w : World) (h0 : w.cell? ⟨b, 1, none⟩ = some (.int .u64 x)) (f0 : w.frozen? ⟨b, 1, none⟩ = false) :
    Calls Try.prog 39 #[.pointer (some ⟨b, 0, none⟩), .int .i64 3, .int .i64 v] w fun e w' => e = .returned (.int .i64 z) ∧ w' = w.setCell ⟨b, 1, none⟩ (.int .u64 y) := by
  subst hz
  have hl := run_call_swap (P := Try.prog) Try.func75 (by kernel_rfl) (by kernel_rfl) (by kernel_rfl) .u64 (by kernel_rfl) (y := y) h0 f0
  go_enter Try.func39, Try.ntmps39
  go_wp2
  go_ret
  exact ⟨rfl, rfl⟩

set_option maxHeartbeats 400000 in
theorem trade3 (b : Nat) (v : Int) (y : Int) (hy : IntKind.wrap .u64 v = y) (x : Int) (z : Int) (hz : wrap64 x = z) (w : World) (h0 : w.cell? ⟨b, 1, none⟩ = some (.int .u64 x)) (f0 : w.frozen? ⟨b, 1, none⟩ = false) :
    Calls Try.prog 24 #[.pointer (some ⟨b, 0, none⟩), .int .i64 3, .int .i64 v] w fun e w' => e = .returned (.tuple #[.int .i64 z, .int .i64 0]) ∧ w' = w.setCell ⟨b, 1, none⟩ (.int .u64 y) := by
  go_enter Try.func24, Try.ntmps24
  go_wp2_with fail
  refine (swap3 b v y hy x z hz _ h0 f0).mono ?_
  rintro e w' ⟨rfl, rfl⟩
  go_wp2_with fail
  go_ret2
  exact ⟨rfl, rfl⟩

set_option maxHeartbeats 400000 in
theorem casHit3 (b : Nat) (o : Int) (p : Int) (hp : IntKind.wrap .u64 o = p) (v : Int) (y : Int) (hy : IntKind.wrap .u64 v = y) (w : World) (h0 : w.cell? ⟨b, 1, none⟩ = some (.int .u64 p)) (f0 : w.frozen? ⟨b, 1, none⟩ = false) :
    Calls Try.prog 40 #[.pointer (some ⟨b, 0, none⟩), .int .i64 3, .int .i64 o, .int .i64 v] w fun e w' => e = .returned (.bool true) ∧ w' = w.setCell ⟨b, 1, none⟩ (.int .u64 y) := by
  have hl := run_call_cas_hit (P := Try.prog) Try.func80 (by kernel_rfl) (by kernel_rfl) (by kernel_rfl) .u64 (by kernel_rfl) (y := y) h0 f0
  go_enter Try.func40, Try.ntmps40
  go_wp2
  go_ret
  exact ⟨rfl, rfl⟩

set_option maxHeartbeats 400000 in
theorem claimHit3 (b : Nat) (o : Int) (p : Int) (hp : IntKind.wrap .u64 o = p) (v : Int) (y : Int) (hy : IntKind.wrap .u64 v = y) (w : World) (h0 : w.cell? ⟨b, 1, none⟩ = some (.int .u64 p)) (f0 : w.frozen? ⟨b, 1, none⟩ = false) :
    Calls Try.prog 25 #[.pointer (some ⟨b, 0, none⟩), .int .i64 3, .int .i64 o, .int .i64 v] w fun e w' => e = .returned (.tuple #[.int .i64 1, .int .i64 0]) ∧ w' = w.setCell ⟨b, 1, none⟩ (.int .u64 y) := by
  go_enter Try.func25, Try.ntmps25
  go_wp2_with fail
  refine (casHit3 b o p hp v y hy _ h0 f0).mono ?_
  rintro e w' ⟨rfl, rfl⟩
  go_wp2_with fail
  go_ret2
  exact ⟨rfl, rfl⟩

set_option maxHeartbeats 400000 in
theorem casMiss3 (b : Nat) (o : Int) (p : Int) (hp : IntKind.wrap .u64 o = p) (v : Int) (y : Int) (hy : IntKind.wrap .u64 v = y) (x : Int) (w : World) (h0 : w.cell? ⟨b, 1, none⟩ = some (.int .u64 x)) (f0 : w.frozen? ⟨b, 1, none⟩ = false) (hne : ¬ x = p) :
    Calls Try.prog 40 #[.pointer (some ⟨b, 0, none⟩), .int .i64 3, .int .i64 o, .int .i64 v] w fun e w' => e = .returned (.bool false) ∧ w' = w := by
  have hl := run_call_cas_miss (P := Try.prog) Try.func80 (by kernel_rfl) (by kernel_rfl) (by kernel_rfl) .u64 (by kernel_rfl) (o := p) (y := y) h0 f0 hne
  go_enter Try.func40, Try.ntmps40
  go_wp2
  go_ret
  exact ⟨rfl, rfl⟩

set_option maxHeartbeats 400000 in
theorem claimMiss3 (b : Nat) (o : Int) (p : Int) (hp : IntKind.wrap .u64 o = p) (v : Int) (y : Int) (hy : IntKind.wrap .u64 v = y) (x : Int) (w : World) (h0 : w.cell? ⟨b, 1, none⟩ = some (.int .u64 x)) (f0 : w.frozen? ⟨b, 1, none⟩ = false) (hne : ¬ x = p) :
    Calls Try.prog 25 #[.pointer (some ⟨b, 0, none⟩), .int .i64 3, .int .i64 o, .int .i64 v] w fun e w' => e = .returned (.tuple #[.int .i64 0, .int .i64 0]) ∧ w' = w := by
  go_enter Try.func25, Try.ntmps25
  go_wp2_with fail
  refine (casMiss3 b o p hp v y hy x _ h0 f0 hne).mono ?_
  rintro e w' ⟨rfl, rfl⟩
  go_wp2_with fail
  go_ret2
  exact ⟨rfl, rfl⟩

end Go.Proofs.Qxb6500587a.words
