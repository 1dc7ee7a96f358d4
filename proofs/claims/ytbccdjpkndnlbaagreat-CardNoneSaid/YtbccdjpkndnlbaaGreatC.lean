/- Free of the card that New(7) made. -/
import Derived.Test.YtbccdjpkndnlbaaGreatNm
import Derived.Conc.MuLone
import Derived.Lib.Hide
namespace Go.Proofs.YtbccdjpkndnlbaaGreat
open Go.RowKit Go.MuLone

theorem method_names (a : Addr) (w : World) : (method 492 74 (.pointer (some a)) "Names").run Tryz.prog w = .ok (234, .pointer (some a)) w := by kernel_rfl

set_option maxRecDepth 100000 in
theorem left_any (b sb mb : Nat) (w : World) (hs : w.cell? ⟨b, 2, none⟩ = some (.iface 74 (.pointer (some ⟨sb, 0, none⟩)))) (hq : w.cell? ⟨b, 3, none⟩ = some (.int .i64 7))
    (h0 : w.cell? ⟨sb, 1, none⟩ = some (.map (some mb))) (h1 : w.cell? ⟨sb, 2, none⟩ = some (.bool true)) (hm : w.heap[mb]? = some (.map #[] 0)) :
    Calls Tryz.prog 18 #[.pointer (some ⟨b, 0, none⟩)] w fun e w' => e = .returned (.int .i64 7) ∧ Below w.heap.size w w' := by
  have hmn := method_names
  have H := Lib.hid hm; clear hm
  go_enter Tryz.func18, Tryz.ntmps18
  go_wp2_with (go_at_call 234; refine (names_empty sb mb _ h0 h1 H.out).mono ?_; rintro e w' ⟨rfl, hb⟩)
  refine wp_loop_rounds 1 ?_
  rw [rounds_succ]
  go_wp2
  go_ret
  exact ⟨rfl, hb⟩

theorem free_any (b sb mb : Nat) (w : World) (hc : w.heap[b]? = some (.cells #[.int .i32 0, .int .u32 0, .iface 74 (.pointer (some ⟨sb, 0, none⟩)), .int .i64 7, .string ByteArray.empty, .string ByteArray.empty, .slice none 0 0, .slice none 0 0, .slice none 0 0] 39 (0, 0)))
    (hsb : w.heap[sb]? = some (.cells #[.slice none 0 0, .map (some mb), .bool true] 94 (0, 0))) (hm : w.heap[mb]? = some (.map #[] 0)) (n1 : sb ≠ b) (n2 : mb ≠ b) :
    Calls Tryz.prog 12 #[.pointer (some ⟨b, 0, none⟩)] w fun e w' => e = .returned (.int .i64 7) ∧ Below b w w' := by
  have hb : b < w.heap.size := (Array.getElem?_eq_some_iff.1 hc).1
  have g : ∀ i, w.cell? ⟨b, i, none⟩ = (#[.int .i32 0, .int .u32 0, .iface 74 (.pointer (some ⟨sb, 0, none⟩)), .int .i64 7, .string ByteArray.empty, .string ByteArray.empty, .slice none 0 0, .slice none 0 0, .slice none 0 0] : Array Value)[i]? := fun i => cell_of_row w b i _ 39 (0, 0) hc
  have c0 : w.cell? ⟨b, 0, none⟩ = some (.int .i32 0) := g 0
  have c2 : w.cell? ⟨b, 2, none⟩ = some (.iface 74 (.pointer (some ⟨sb, 0, none⟩))) := g 2
  have c3 : w.cell? ⟨b, 3, none⟩ = some (.int .i64 7) := g 3
  have z0 : w.frozen? ⟨b, 0, none⟩ = false := by simp [World.frozen?, hc]
  have s1 : w.cell? ⟨sb, 1, none⟩ = some (.map (some mb)) := (cell_of_row w sb 1 _ 94 (0, 0) hsb)
  have s2 : w.cell? ⟨sb, 2, none⟩ = some (.bool true) := (cell_of_row w sb 2 _ 94 (0, 0) hsb)
  have hl : Calls Tryz.prog 18 #[.pointer (some ⟨b, 0, none⟩)] (w.setCell ⟨b, 0, none⟩ (.int .i32 1)) fun e w' => e = .returned (.int .i64 7) ∧ Below (w.setCell ⟨b, 0, none⟩ (.int .i32 1)).heap.size (w.setCell ⟨b, 0, none⟩ (.int .i32 1)) w' := by
    refine left_any b sb mb _ ?_ ?_ ?_ ?_ ?_
    · exact (World.cell?_setCell_other _ ⟨b, 0, none⟩ ⟨b, 2, none⟩ _ (by simp)).trans c2
    · exact (World.cell?_setCell_other _ ⟨b, 0, none⟩ ⟨b, 3, none⟩ _ (by simp)).trans c3
    · exact (World.cell?_setCell_other _ ⟨b, 0, none⟩ ⟨sb, 1, none⟩ _ (by simp)).trans s1
    · exact (World.cell?_setCell_other _ ⟨b, 0, none⟩ ⟨sb, 2, none⟩ _ (by simp)).trans s2
    · exact (Below.heap_setCell w ⟨b, 0, none⟩ _ mb n2).trans hm
  clear g hc hsb hm c3 s1 s2
  have H1 := Lib.hid n1; clear n1
  have H2 := Lib.hid n2; clear n2
  go_enter_defers Tryz.func12, Tryz.ntmps12
  go_wp2_with (first | (go_at_call 15; go_in) | (go_at_call 23; refine (lock_free muLib ⟨b, 0, none⟩ _ c0 z0).mono ?_; rintro e w' ⟨rfl, rfl⟩) | (go_at_call 18; refine hl.mono ?_; rintro e w1 ⟨rfl, hb1⟩))
  refine leaves_cons (f := 16) (args := #[.pointer (some ⟨b, 0, none⟩)]) (by simp) (by simp [go_sem]) ?_
  have k1 : (w.setCell ⟨b, 0, none⟩ (.int .i32 1)).cell? ⟨b, 0, none⟩ = some (.int .i32 1) := World.cell?_setCell_same w ⟨b, 0, none⟩ (.int .i32 1) c0
  have hbs : b < (w.setCell ⟨b, 0, none⟩ (.int .i32 1)).heap.size := by simpa using hb
  refine (unlock_deferred muLib ⟨b, 0, none⟩ .returning _ ?_ ?_).mono ?_
  · exact (hb1.cell (p := ⟨b, 0, none⟩) hbs).trans k1
  · exact (hb1.frozen (p := ⟨b, 0, none⟩) hbs).trans (by simp [z0])
  rintro e u' w'' ⟨rfl, rfl, rfl⟩
  refine ⟨_, results_tmp rfl _ _ _, rfl, ?_⟩
  have q1 : Below b w (w.setCell ⟨b, 0, none⟩ (.int .i32 1)) := Below.setCell (p := ⟨b, 0, none⟩) (Below.refl b w) (Nat.le_refl b) _
  have q2 : Below b w w1 := q1.trans (hb1.mono (by simp; omega))
  exact Below.setCell (p := ⟨b, 0, none⟩) q2 (Nat.le_refl b) _
end Go.Proofs.YtbccdjpkndnlbaaGreat
