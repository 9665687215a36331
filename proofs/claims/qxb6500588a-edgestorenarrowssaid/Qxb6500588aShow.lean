/-
  THE WALK of (*Set).Show over a set whose words hold -1, each at its own width, and in which nothing waits.
-/
import Derived.Test.Qxb6500588aWords
import Derived.Test.Qxb6500588aItoa
namespace Go.Proofs.Qxb6500588a.narrows
open Go.RowKit Go.Proofs.Qxb6500588a.words Go.Proofs.Qxb6500588a.itoa

/-- New blocks alone: of what was there nothing has turned, no mark either. -/
def Up (w w' : World) : Prop := Below w.heap.size w w' ∧ ∀ a, w'.frozen? a = w.frozen? a
theorem Up.refl (w : World) : Up w w := ⟨Below.refl _ _, fun _ => rfl⟩
theorem Up.trans {a b c : World} (h : Up a b) (k : Up b c) : Up a c := ⟨h.1.trans (k.1.mono h.1.size), fun x => (k.2 x).trans (h.2 x)⟩
theorem Up.alloc (w : World) (c : Array Value) (t : TypeId) : Up w (w.alloc (.cells c t)) := ⟨(Below.refl _ _).alloc (Nat.le_refl _) _, fun a => frozen?_alloc_cells _ _ _ a⟩

/-- Block b is a set that holds these numbers; nothing waits in it. -/
def Holds (b : Nat) (x0 x1 x2 x3 x4 : Int) (w : World) : Prop :=
  b < w.heap.size ∧ w.cell? ⟨b, 0, none⟩ = some (.int .i64 x0) ∧ w.cell? ⟨b, 1, none⟩ = some (.int .u64 x1) ∧ w.cell? ⟨b, 2, none⟩ = some (.int .u64 x2) ∧
  w.cell? ⟨b, 3, none⟩ = some (.int .i32 x3) ∧ w.cell? ⟨b, 4, none⟩ = some (.int .u32 x4) ∧
  w.cell? ⟨b, 6, none⟩ = some (.slice none 0 0) ∧ w.cell? ⟨b, 7, none⟩ = some (.slice none 0 0) ∧ w.cell? ⟨b, 8, none⟩ = some (.slice none 0 0)
theorem Holds.up {b : Nat} {x0 x1 x2 x3 x4 : Int} {w w' : World} (h : Holds b x0 x1 x2 x3 x4 w) (u : Up w w') : Holds b x0 x1 x2 x3 x4 w' := by
  obtain ⟨hb, h0, h1, h2, h3, h4, h6, h7, h8⟩ := h
  have e : ∀ i, w'.cell? ⟨b, i, none⟩ = w.cell? ⟨b, i, none⟩ := fun i => u.1.cell (p := ⟨b, i, none⟩) hb
  exact ⟨Nat.lt_of_lt_of_le hb u.1.size, (e 0).trans h0, (e 1).trans h1, (e 2).trans h2, (e 3).trans h3, (e 4).trans h4, (e 6).trans h6, (e 7).trans h7, (e 8).trans h8⟩
theorem Holds.fresh (x0 x1 x2 x3 x4 : Int) (w : World) : Holds w.heap.size x0 x1 x2 x3 x4 (w.alloc (.cells (cells x0 x1 x2 x3 x4) 63)) :=
  ⟨by simp, by rw [World.cell?_alloc_new]; rfl, by rw [World.cell?_alloc_new]; rfl, by rw [World.cell?_alloc_new]; rfl, by rw [World.cell?_alloc_new]; rfl, by rw [World.cell?_alloc_new]; rfl,
    by rw [World.cell?_alloc_new]; rfl, by rw [World.cell?_alloc_new]; rfl, by rw [World.cell?_alloc_new]; rfl⟩

theorem itoaM1 (w : World) : Calls Try.prog 37 #[.int .i64 (-1)] w fun e w' => e = .returned (.string ⟨#[45, 49]⟩) ∧ Up w w' :=
  (itoa_m1 w).mono (by rintro e w' ⟨rfl, c, rfl⟩; exact ⟨rfl, Up.alloc _ _ _⟩)
theorem itoaU32 (w : World) : Calls Try.prog 37 #[.int .i64 4294967295] w fun e w' => e = .returned (.string ⟨#[52, 50, 57, 52, 57, 54, 55, 50, 57, 53]⟩) ∧ Up w w' :=
  (itoa_u32 w).mono (by rintro e w' ⟨rfl, c, rfl⟩; exact ⟨rfl, Up.alloc _ _ _⟩)

theorem ret_str {a b : ByteArray} (h : a = b) : Ending.returned (.string a) = .returned (.string b) := by rw [h]

theorem idx0 (w : World) : (Instr.index 61 (.agg #[.slice none 0 0, .slice none 0 0, .slice none 0 0]) (.int .i64 0)).run Try.prog w = .ok (.slice none 0 0) w := by
  simp [Instr.index, run_underlying Try.underlying61, asIntOf, part, isAgg, run_underlying Try.underlying60]
theorem idx1 (w : World) : (Instr.index 61 (.agg #[.slice none 0 0, .slice none 0 0, .slice none 0 0]) (.int .i64 1)).run Try.prog w = .ok (.slice none 0 0) w := by
  simp [Instr.index, run_underlying Try.underlying61, asIntOf, part, isAgg, run_underlying Try.underlying60]
theorem idx2 (w : World) : (Instr.index 61 (.agg #[.slice none 0 0, .slice none 0 0, .slice none 0 0]) (.int .i64 2)).run Try.prog w = .ok (.slice none 0 0) w := by
  simp [Instr.index, run_underlying Try.underlying61, asIntOf, part, isAgg, run_underlying Try.underlying60]

set_option maxRecDepth 100000 in
set_option maxHeartbeats 1000000 in
theorem show_narrow (b : Nat) (w : World) (h : Holds b (-1) 18446744073709551615 18446744073709551615 (-1) 4294967295 w) :
    Calls Try.prog 25 #[.pointer (some ⟨b, 0, none⟩)] w fun e w' => e = .returned (.string ⟨#[45, 49, 32, 52, 50, 57, 52, 57, 54, 55, 50, 57, 53, 32, 45, 49, 32, 45, 49, 32, 45, 49, 32, 124, 124, 124]⟩) ∧ Up w w' := by
  have i0 := idx0
  have i1 := idx1
  have i2 := idx2
  go_enter Try.func25, Try.ntmps25
  go_wp2_with fail
  refine wp_loop_rounds 6 ?_
  rw [rounds_succ]; go_wp2_with fail
  refine (load0 b (-1) (-1) (by decide +kernel) _ h.2.2.2.2.1).mono ?_
  rintro e w' ⟨rfl, rfl⟩
  go_wp2_with fail
  refine (itoaM1 _).mono ?_
  rintro e w1 ⟨rfl, u1⟩
  have h1 := h.up u1
  go_wp2_with fail
  rw [rounds_succ]; go_wp2_with fail
  refine (load1 b 4294967295 4294967295 (by decide +kernel) _ h1.2.2.2.2.2.1).mono ?_
  rintro e w' ⟨rfl, rfl⟩
  go_wp2_with fail
  refine (itoaU32 _).mono ?_
  rintro e w2 ⟨rfl, u2⟩
  have h2 := h1.up u2
  go_wp2_with fail
  rw [rounds_succ]; go_wp2_with fail
  refine (load2 b (-1) _ h2.2.1).mono ?_
  rintro e w' ⟨rfl, rfl⟩
  go_wp2_with fail
  refine (itoaM1 _).mono ?_
  rintro e w3 ⟨rfl, u3⟩
  have h3 := h2.up u3
  go_wp2_with fail
  rw [rounds_succ]; go_wp2_with fail
  refine (load3 b 18446744073709551615 (-1) (by decide +kernel) _ h3.2.2.1).mono ?_
  rintro e w' ⟨rfl, rfl⟩
  go_wp2_with fail
  refine (itoaM1 _).mono ?_
  rintro e w4 ⟨rfl, u4⟩
  have h4 := h3.up u4
  go_wp2_with fail
  rw [rounds_succ]; go_wp2_with fail
  refine (load4 b 18446744073709551615 (-1) (by decide +kernel) _ h4.2.2.2.1).mono ?_
  rintro e w' ⟨rfl, rfl⟩
  go_wp2_with fail
  refine (itoaM1 _).mono ?_
  rintro e w5 ⟨rfl, u5⟩
  have h5 := h4.up u5
  go_wp2_with fail
  have c6 := h5.2.2.2.2.2.2.1
  have c7 := h5.2.2.2.2.2.2.2.1
  have c8 := h5.2.2.2.2.2.2.2.2
  rw [rounds_succ]; go_wp2_with fail
  refine wp_loop_rounds 4 ?_
  rw [rounds_succ]; go_wp2_with fail
  refine wp_loop_rounds 1 ?_
  rw [rounds_succ]; go_wp2_with fail
  rw [rounds_succ]; go_wp2_with fail
  refine wp_loop_rounds 1 ?_
  rw [rounds_succ]; go_wp2_with fail
  rw [rounds_succ]; go_wp2_with fail
  refine wp_loop_rounds 1 ?_
  rw [rounds_succ]; go_wp2_with fail
  rw [rounds_succ]; go_wp2_with fail
  go_ret
  exact ⟨ret_str (by decide +kernel), ((((u1.trans u2).trans u3).trans u4).trans u5)⟩
end Go.Proofs.Qxb6500588a.narrows
