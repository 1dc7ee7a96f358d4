/- Names of an empty store. -/
import Derived.Test.YtbccdjpkndnlbaaGreatIter
import Derived.Test.YtbccdjpkndnlbaaGreatB
import Derived.OwnWalkIn
import Derived.BigFrameIn
import Derived.Maps.Own
namespace Go.Proofs.YtbccdjpkndnlbaaGreat
open Go.RowKit Go.Maps Go.Sort Go.Shelf

theorem ready_true (sb : Nat) (w : World) (h1 : w.cell? ⟨sb, 2, none⟩ = some (.bool true)) : Calls Tryz.prog 237 #[.pointer (some ⟨sb, 0, none⟩)] w fun e w' => e = .returned (.bool true) ∧ w = w' := by
  go_enter Tryz.func237, Tryz.ntmps237
  go_wp2
  go_ret
  exact ⟨rfl, rfl⟩

set_option maxHeartbeats 1000000 in
theorem names_empty (sb mb : Nat) (w : World) (h0 : w.cell? ⟨sb, 1, none⟩ = some (.map (some mb))) (h1 : w.cell? ⟨sb, 2, none⟩ = some (.bool true)) (hm : w.heap[mb]? = some (.map #[] 0)) :
    Calls Tryz.prog 234 #[.pointer (some ⟨sb, 0, none⟩)] w fun e w' => e = .returned (.slice none 0 0) ∧ Below w.heap.size w w' := by
  have hown : w.ownsMap Tryz.prog 9 (H := Unit) (fun _ => none) mb 0 (.map []) := by
    exact ⟨#[], 0, hm, ⟨by simp, MapKept.stamped_empty 0, by simp⟩, Nat.le_refl _, rfl⟩
  have hr := ready_true sb w h1
  clear hm
  refine (callsIn_wide (n := 6)).1 ?_
  have hfK : Fence.wide.fn 243 := trivial
  have hfS : Fence.wide.fn 242 := trivial
  have hfR : Fence.wide.fn 237 := trivial
  refine callsIn_of_wp Tryz.func234 rfl trivial ?_ rfl
  simp only [Tryz.ntmps234, List.size_toArray, List.length_cons, List.length_nil, Nat.reduceAdd, Nat.reduceSub, Array.replicate_succ, Array.replicate_zero, List.push_toArray, List.append_toArray, List.nil_append, List.cons_append]
  gi_wp2_with (first
    | (gi_at_call 237; refine (callsIn_wide.2 hr).mono ?_; rintro e w' ⟨rfl, rfl⟩)
    | (gi_at_call 243; refine (Tryz.maps_Keys_243 _ _).mono ?_; rintro e w' ⟨rfl, rfl⟩)
    | (gi_at_call 242; refine (Tryz.slices_Sorted_keys_242_243 mb 0 (.map []) (fun _ => none) w hown (by decide) (by decide)).mono ?_; rintro e w' ⟨v, ss, rfl, hS, hrow, hnil, hb⟩))
  have hs : ss = [] := by
    have hl := hS.length_eq
    exact List.length_eq_zero_iff.1 (hl.trans rfl)
  go_ret
  exact ⟨by rw [hnil.2 hs]; rfl, ((Below.refl _ w).alloc (Nat.le_refl _) _).trans (hb.mono (by simp))⟩
end Go.Proofs.YtbccdjpkndnlbaaGreat
