/-
  THE WALKS on the road of 'EdgePollEmpty', second part: polled, and the edge itself.
-/
import Derived.Test.Qxb6500584aPollWalks
namespace Go.Proofs.Qxb6500584a.pollWalks
open Go.Conc Go.RowKit

theorem lt_of_heap {w : World} {c : Nat} {o : Obj} (h : w.heap[c]? = some o) : c < w.heap.size := by
  rcases Nat.lt_or_ge c w.heap.size with hl | hl
  · exact hl
  · rw [Array.getElem?_eq_none hl] at h; cases h
theorem cell_alloc {w : World} {b i : Nat} {v : Value} (o : Obj) (hb : b < w.heap.size) (h : w.cell? ⟨b, i, none⟩ = some v) : (w.alloc o).cell? ⟨b, i, none⟩ = some v :=
  (World.cell?_alloc_past _ _ _ hb).trans h
theorem heap_alloc {w : World} {c : Nat} {x : Obj} (o : Obj) (h : w.heap[c]? = some x) : (w.alloc o).heap[c]? = some x :=
  (Below.heap_alloc _ _ _ (lt_of_heap h)).trans h

set_option maxHeartbeats 400000 in
theorem polled_empty (b c : Nat) (w : World) (hb : b < w.heap.size) (h0 : w.cell? ⟨b, 3, none⟩ = some (.chan (some c))) (hc : w.heap[c]? = some (.chan 4 #[] false 0 0 false)) :
    Calls Try.prog 21 #[.pointer (some ⟨b, 0, none⟩)] w fun e w' => e = .returned (.agg #[.int .i64 4, .int .i64 0, .int .i64 0, .string ⟨#[]⟩]) ∧ ∃ c1 c2, w' = (w.alloc (.cells c1 27)).alloc (.cells c2 27) := by
  go_enter Try.func21, Try.ntmps21
  go_wp2_with fail
  refine (poll_empty b c _ (cell_alloc _ (by simp; omega) (cell_alloc _ hb h0)) (heap_alloc _ (heap_alloc _ hc))).mono ?_
  rintro e w' ⟨rfl, rfl⟩
  go_wp2_with fail
  exact bodyPost_ret (v := .agg #[.int .i64 4, .int .i64 0, .int .i64 0, .string ⟨#[]⟩]) (by simp [results, Try.results21, go_sem]) rfl ⟨rfl, _, _, rfl⟩

theorem frozen?_alloc_chan (w : World) (n : Nat) (buf : Array Value) (cl : Bool) (s r : Nat) (tm : Bool) (a : Addr) : (w.alloc (.chan n buf cl s r tm)).frozen? a = w.frozen? a := by
  by_cases h : a.block = w.heap.size
  · have e1 : (w.alloc (.chan n buf cl s r tm)).heap[a.block]? = some (.chan n buf cl s r tm) := by rw [h]; exact (MapKept.heap_alloc w _).1
    have e2 : w.heap[a.block]? = none := by rw [h]; simp
    simp [World.frozen?, e1, e2]
  · exact World.frozen?_alloc_old _ _ _ h

theorem grown_allocChan {W w' : World} (h : Grown W w') (n : Nat) (buf : Array Value) (cl : Bool) (s r : Nat) (tm : Bool) : Grown W (w'.alloc (.chan n buf cl s r tm)) :=
  ⟨World.keptBut_trans h.1 (World.keptBut_alloc _ _ _), fun a => (frozen?_alloc_chan _ _ _ _ _ _ _ a).trans (h.2.1 a), Nat.le_trans h.2.2 (by show w'.heap.size ≤ (w'.heap.push _).size; simp)⟩

set_option maxHeartbeats 400000 in
theorem edge_walk (w : World) :
    Calls Try.prog 8 #[] w fun e w' => e = .returned (.bool true) ∧ Grown w w' := by
  go_enter Try.func8, Try.ntmps8
  go_wp2_with fail
  refine (new_any _).mono ?_
  rintro e w' ⟨rfl, rfl⟩
  go_wp2_with fail
  refine (polled_empty (w.heap.size + 1) w.heap.size _ (by simp) (by simp [go_sem]) (heap_alloc2_old _ _ _)).mono ?_
  rintro e w' ⟨rfl, c1, c2, rfl⟩
  go_wp2_with fail
  go_ret
  exact ⟨rfl, ((((grown_allocChan (Grown.refl _) _ _ _ _ _ _).alloc _ _).alloc _ _).alloc _ _).alloc _ _⟩
end Go.Proofs.Qxb6500584a.pollWalks
