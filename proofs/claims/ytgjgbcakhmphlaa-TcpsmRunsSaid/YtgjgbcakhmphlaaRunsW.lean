/-
  The walk of the law TcpsmRuns: it returns true, and what was there stays. Condition: the segments lie where the slice says.
-/
import Derived.Test.YtgjgbcakhmphlaaS
namespace Go.Proofs.Ytgjgbcakhmphlaa
open Go.RowKit Go.Maps Go.WideMaps

set_option maxHeartbeats 400000 in
theorem runs_big (A : Option Addr) (n c : Nat) (w : World) (h : 300 < n) : Calls Try.prog 3 #[.slice A n c] w fun e w' => e = .returned (.bool true) ∧ Below w.heap.size w w' := by
  have h' : (300 : Int) < (n : Int) := by omega
  go_enter Try.func3, Try.ntmps3
  go_wp2_with (go_at_call 9; (with_reducible refine (wakes_any _).mono ?_); rintro e w2 ⟨rfl, hb2⟩)
  go_ret
  exact ⟨rfl, hb2⟩
set_option maxHeartbeats 400000 in
theorem runs_zero (A : Option Addr) (c : Nat) (w : World) : Calls Try.prog 3 #[.slice A 0 c] w fun e w' => e = .returned (.bool true) ∧ Below w.heap.size w w' := by
  go_enter Try.func3, Try.ntmps3
  go_wp2
  refine wp_loop_rounds 1 ?_
  rw [rounds_succ]
  go_wp2_with (go_at_call 9; (with_reducible refine (wakes_any _).mono ?_); rintro e w2 ⟨rfl, hb2⟩)
  go_ret
  exact ⟨rfl, hb2⟩
theorem runs_walk (A : Option Addr) (n c : Nat) (six : Nat → Bool) (fl : Nat → Int) (w : World) (hs : SegsAt w A n six fl) :
    Calls Try.prog 3 #[.slice A n c] w fun e w' => e = .returned (.bool true) ∧ Below w.heap.size w w' := by
  by_cases hb : 300 < n
  · exact runs_big A n c w hb
  · by_cases h0 : n = 0
    · subst h0; exact runs_zero A c w
    · obtain ⟨b, off, rfl, hlt, hk⟩ := hs (by omega)
      exact runs_round b off n c six fl w hlt (by omega) (fun k h => (hk k h).1) (fun k h => (hk k h).2)
end Go.Proofs.Ytgjgbcakhmphlaa
