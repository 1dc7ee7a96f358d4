/- Run of a card that no call made; New and Free. -/
import Derived.Test.YtbccdjpkndnlbaaGreatA
import Derived.Laws.ResultCell
namespace Go.Proofs.YtbccdjpkndnlbaaGreat
open Go.RowKit

theorem run_nil (s : ByteArray) (A : Option Addr) (n c : Nat) (x y : Int) (w : World) : Calls Tryz.prog 7 #[.pointer none, .string s, .slice A n c, .int .i64 x, .int .i64 y] w fun e w' => e = .returned (.tuple #[.agg #[.int .i64 0, .int .i64 0, .int .i64 0, .slice none 0 0, .int .i64 0, .int .i64 0], .int .i64 8]) ∧ Below w.heap.size w w' := by
  go_enter Tryz.func7, Tryz.ntmps7
  go_wp2_with (go_at_call 15; refine (lock_nil _).mono ?_; rintro e w' ⟨rfl, rfl⟩)
  refine bodyPost_ret (v := .tuple #[.agg #[.int .i64 0, .int .i64 0, .int .i64 0, .slice none 0 0, .int .i64 0, .int .i64 0], .int .i64 8]) (by simp [results, Tryz.results7, go_sem]) rfl ⟨rfl, (Below.refl _ _).alloc (Nat.le_refl _) _⟩

theorem run_zero (b : Nat) (s : ByteArray) (A : Option Addr) (n c : Nat) (x y : Int) (w : World) (h : w.cell? ⟨b, 2, none⟩ = some .nilIface) : Calls Tryz.prog 7 #[.pointer (some ⟨b, 0, none⟩), .string s, .slice A n c, .int .i64 x, .int .i64 y] w fun e w' => e = .returned (.tuple #[.agg #[.int .i64 0, .int .i64 0, .int .i64 0, .slice none 0 0, .int .i64 0, .int .i64 0], .int .i64 8]) ∧ Below w.heap.size w w' := by
  have hlt : b < w.heap.size := World.block_lt_of_cell? w _ h
  have h' : (w.alloc (.cells #[.int .i64 0, .int .i64 0, .int .i64 0, .slice none 0 0, .int .i64 0, .int .i64 0] 51)).cell? ⟨b, 2, none⟩ = some .nilIface := by
    rw [World.cell?_alloc_past _ _ _ hlt]; exact h
  go_enter Tryz.func7, Tryz.ntmps7
  go_wp2_with (go_at_call 15; refine (lock_zero b _ h').mono ?_; rintro e w' ⟨rfl, rfl⟩)
  refine bodyPost_ret (v := .tuple #[.agg #[.int .i64 0, .int .i64 0, .int .i64 0, .slice none 0 0, .int .i64 0, .int .i64 0], .int .i64 8]) (by simp [results, Tryz.results7, go_sem]) rfl ⟨rfl, (Below.refl _ _).alloc (Nat.le_refl _) _⟩

/-- The world behind New(7). -/
def newWorld (w : World) : World := ((w.alloc (.map #[] 0)).alloc (.cells #[.slice none 0 0, .map (some w.heap.size), .bool true] 94)).alloc
    (.cells #[.int .i32 0, .int .u32 0, .iface 74 (.pointer (some ⟨w.heap.size + 1, 0, none⟩)), .int .i64 7, .string ByteArray.empty, .string ByteArray.empty, .slice none 0 0, .slice none 0 0, .slice none 0 0] 39)

theorem new7 (w : World) : Calls Tryz.prog 14 #[.int .i64 7] w fun e w' => e = .returned (.tuple #[.pointer (some ⟨w.heap.size + 1 + 1, 0, none⟩), .int .i64 0]) ∧ newWorld w = w' := by
  have hmm := @run_makeMap Tryz.prog
  go_enter Tryz.func14, Tryz.ntmps14
  go_wp2
  go_ret2
  exact ⟨rfl, rfl⟩
end Go.Proofs.YtbccdjpkndnlbaaGreat
