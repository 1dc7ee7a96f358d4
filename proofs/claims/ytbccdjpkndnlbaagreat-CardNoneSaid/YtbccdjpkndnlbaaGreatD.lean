/- The law's walk. -/
import Derived.Test.YtbccdjpkndnlbaaGreatC
namespace Go.Proofs.YtbccdjpkndnlbaaGreat
open Go.RowKit

theorem free7 (w : World) (b : Nat) (hb : b = w.heap.size + 1 + 1) : Calls Tryz.prog 12 #[.pointer (some ⟨b, 0, none⟩)] (newWorld w) fun e w' => e = .returned (.int .i64 7) ∧ Below w.heap.size w w' := by
  subst hb
  have h0 : (newWorld w).heap[w.heap.size]? = some (.map #[] 0) := by simp only [newWorld, World.alloc, Array.getElem?_push, Array.size_push]; rw [if_neg (by omega), if_neg (by omega), if_pos trivial]
  have h1 : (newWorld w).heap[w.heap.size + 1]? = some (.cells #[.slice none 0 0, .map (some w.heap.size), .bool true] 94 (0, 0)) := by simp only [newWorld, World.alloc, Array.getElem?_push, Array.size_push]; rw [if_neg (by omega), if_pos trivial]
  have h2 : (newWorld w).heap[w.heap.size + 1 + 1]? = some (.cells #[.int .i32 0, .int .u32 0, .iface 74 (.pointer (some ⟨w.heap.size + 1, 0, none⟩)), .int .i64 7, .string ByteArray.empty, .string ByteArray.empty, .slice none 0 0, .slice none 0 0, .slice none 0 0] 39 (0, 0)) := by simp only [newWorld, World.alloc, Array.getElem?_push, Array.size_push]; rw [if_pos trivial]
  refine (free_any (w.heap.size + 1 + 1) (w.heap.size + 1) w.heap.size (newWorld w) h2 h1 h0 (by omega) (by omega)).mono ?_
  rintro e w' ⟨rfl, hb⟩
  refine ⟨rfl, ?_⟩
  have q : Below w.heap.size w (newWorld w) := (((Below.refl _ _).alloc (Nat.le_refl _) _).alloc (by simp) _).alloc (by simp; omega) _
  exact q.trans (hb.mono (by omega))

set_option maxRecDepth 100000 in
set_option maxHeartbeats 4000000 in
theorem law_walk (s : ByteArray) (A : Option Addr) (n c : Nat) (w : World) :
    Calls Tryz.prog 3 #[.string s, .slice A n c] w fun e w' => e = .returned (.bool true) ∧ Below w.heap.size w w' := by
  go_enter Tryz.func3, Tryz.ntmps3
  go_wp2_with fail
  refine wp_loop_rounds 3 ?_
  rw [rounds_succ]
  go_wp2_with (first
    | (go_at_call 4; refine (size_nil _ _).mono ?_; rintro e w' ⟨rfl, rfl⟩)
    | (go_at_call 5; refine (install_nil _ _ _ _).mono ?_; rintro e w' ⟨rfl, rfl⟩)
    | (go_at_call 6; refine (remove_nil _ _).mono ?_; rintro e w' ⟨rfl, rfl⟩)
    | (go_at_call 8; refine (select_nil _ _).mono ?_; rintro e w' ⟨rfl, rfl⟩)
    | (go_at_call 9; refine (pack_nil _).mono ?_; rintro e w' ⟨rfl, rfl⟩)
    | (go_at_call 7; refine (run_nil _ _ _ _ _ _ _).mono ?_; rintro e w1 ⟨rfl, hb1⟩))
  have c1 : w1.cell? ⟨w.heap.size + 1, 1, none⟩ = some (.pointer (some ⟨w.heap.size, 0, none⟩)) := (hb1.cell (p := ⟨w.heap.size + 1, 1, none⟩) (by simp)).trans (by simp)
  have c2 : w1.cell? ⟨w.heap.size, 2, none⟩ = some .nilIface := (hb1.cell (p := ⟨w.heap.size, 2, none⟩) (by simp; omega)).trans (by simp)
  have hsz : w.heap.size + 2 ≤ w1.heap.size := by have := hb1.size; simp at this; omega
  have B1 := Lib.hid hb1; clear hb1
  refine wp_loop_rounds 7 ?_
  iterate 6 (rw [rounds_succ]; go_wp2_with fail)
  rw [rounds_succ]
  go_wp2_with (first
    | (go_at_call 10; refine (names_nil _).mono ?_; rintro e w' ⟨rfl, rfl⟩)
    | (go_at_call 11; refine (image_nil _).mono ?_; rintro e w' ⟨rfl, rfl⟩)
    | (go_at_call 12; refine (free_nil _).mono ?_; rintro e w' ⟨rfl, rfl⟩)
    | (go_at_call 13; refine (selected_nil _).mono ?_; rintro e w' ⟨rfl, rfl⟩))
  have d1 : ∀ X Y, ((w1.alloc X).alloc Y).cell? ⟨w.heap.size + 1, 1, none⟩ = some (.pointer (some ⟨w.heap.size, 0, none⟩)) := fun X Y => by
    rw [World.cell?_alloc_past _ _ _ (by simp; omega), World.cell?_alloc_past _ _ _ (by show w.heap.size + 1 < w1.heap.size; omega)]; exact c1
  have d2 : ∀ X Y, ((w1.alloc X).alloc Y).cell? ⟨w.heap.size, 2, none⟩ = some .nilIface := fun X Y => by
    rw [World.cell?_alloc_past _ _ _ (by simp; omega), World.cell?_alloc_past _ _ _ (by show w.heap.size < w1.heap.size; omega)]; exact c2
  clear c1 c2
  rw [rounds_succ]
  go_wp2_with (first
    | (go_at_call 4; refine (size_zero _ _ _ (d2 _ _)).mono ?_; rintro e w' ⟨rfl, rfl⟩)
    | (go_at_call 5; refine (install_zero _ _ _ _ _ (d2 _ _)).mono ?_; rintro e w' ⟨rfl, rfl⟩)
    | (go_at_call 6; refine (remove_zero _ _ _ (d2 _ _)).mono ?_; rintro e w' ⟨rfl, rfl⟩)
    | (go_at_call 7; refine (run_zero _ _ _ _ _ _ _ _ (d2 _ _)).mono ?_; rintro e w3 ⟨rfl, hb3⟩))
  have e0 : w3.cell? ⟨w.heap.size, 2, none⟩ = some .nilIface := (hb3.cell (p := ⟨w.heap.size, 2, none⟩) (by simp; omega)).trans (d2 _ _)
  have hsz3 : w1.heap.size + 2 ≤ w3.heap.size := by have := hb3.size; simp at this; omega
  have B3 := Lib.hid hb3; clear hb3
  have e1 : ∀ X, (w3.alloc X).cell? ⟨w.heap.size, 2, none⟩ = some .nilIface := fun X => by
    rw [World.cell?_alloc_past _ _ _ (by show w.heap.size < w3.heap.size; omega)]; exact e0
  have e2 : ∀ X Y, ((w3.alloc X).alloc Y).cell? ⟨w.heap.size, 2, none⟩ = some .nilIface := fun X Y => by
    rw [World.cell?_alloc_past _ _ _ (by simp; omega)]; exact e1 X
  clear d1 d2 e0
  refine (select_zero _ _ _ (e1 _)).mono ?_
  rintro e w' ⟨rfl, rfl⟩
  go_wp2_with fail
  refine (pack_zero _ _ (e1 _)).mono ?_
  rintro e w' ⟨rfl, rfl⟩
  go_wp2_with fail
  refine wp_loop_rounds 7 ?_
  iterate 6 (rw [rounds_succ]; go_wp2_with fail)
  rw [rounds_succ]
  go_wp2_with (first
    | (go_at_call 10; refine (names_zero _ _ (e2 _ _)).mono ?_; rintro e w' ⟨rfl, rfl⟩)
    | (go_at_call 11; refine (image_zero _ _ (e2 _ _)).mono ?_; rintro e w' ⟨rfl, rfl⟩)
    | (go_at_call 12; refine (free_zero _ _ (e2 _ _)).mono ?_; rintro e w' ⟨rfl, rfl⟩)
    | (go_at_call 13; refine (selected_zero _ _ (e2 _ _)).mono ?_; rintro e w' ⟨rfl, rfl⟩))
  clear e1 e2
  rw [rounds_succ]
  go_wp2_with (go_at_call 14; refine (new7 _).mono ?_; rintro e w' ⟨rfl, rfl⟩)
  refine (free7 _ _ (by simp)).mono ?_
  rintro e w4 ⟨rfl, hb4⟩
  go_wp2
  go_ret
  refine ⟨rfl, ?_⟩
  have q1 := (((Below.refl _ w).alloc (Nat.le_refl _) _).alloc (by simp) _).trans (B1.out.mono (by simp; omega))
  have q2 := ((q1.alloc (by omega) _).alloc (by simp; omega) _).trans (B3.out.mono (by simp; omega))
  exact ((q2.alloc (by omega) _).alloc (by simp; omega) _).trans (hb4.mono (by simp; omega))
end Go.Proofs.YtbccdjpkndnlbaaGreat
