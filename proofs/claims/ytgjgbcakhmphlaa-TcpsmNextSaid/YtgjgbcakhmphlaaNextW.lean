/-
  The walk of the law TcpsmNext: it returns true, and what was there stays. Condition: the arguments fit their kind.
-/
import Derived.Test.YtgjgbcakhmphlaaG
namespace Go.Proofs.Ytgjgbcakhmphlaa
open Go.RowKit Go.Maps Go.WideMaps

theorem rkind_is {g k : Int} (hk : kd g = k) (w : World) : Calls Try.prog 14 #[.int .i64 g] w fun e w' => e = .returned (.int .i64 k) ∧ w = w' := by
  rw [← hk]; exact rkind_any g w
theorem begins_is {f g k : Int} (hf : f = 4 ∨ f = 6) (hk : kd g = k) (w : World) : Calls Try.prog 15 #[.int .i64 f, .int .i64 g] w fun e w' => e = .returned (.bool (k == 2)) ∧ w = w' := by
  rw [← hk]; exact begins_t f g w hf
theorem rnext_is {s f g x l : Int} (h0 : 0 ≤ s) (h7 : s ≤ 7) (hf : f = 4 ∨ f = 6) {k : Int} (hk : kd g = k) (hN : N s f k = (x, l)) (w : World) :
    Calls Try.prog 12 #[.int .i64 s, .int .i64 f, .int .i64 g] w fun e w' => e = .returned (.tuple #[.int .i64 x, .int .i64 l, .bool true]) ∧ w = w' := by
  have h := rnext_ok s f g w h0 h7 hf
  rw [hk, hN] at h
  exact h

set_option maxHeartbeats 1000000 in
theorem next_walk (s f g : Int) (w : World) (_w0 : (Lit.int .i64 s).wf = true) (_w1 : (Lit.int .i64 f).wf = true) (_w2 : (Lit.int .i64 g).wf = true) :
    Calls Try.prog 7 #[.int .i64 s, .int .i64 f, .int .i64 g] w fun e w' => e = .returned (.bool true) ∧ Below w.heap.size w w' := by
  clear _w0 _w1 _w2
  obtain ⟨k, hk⟩ : ∃ k, kd g = k := ⟨_, rfl⟩
  by_cases hv : (0 ≤ s ∧ s ≤ 7) ∧ (f = 4 ∨ f = 6)
  · obtain ⟨⟨h0, h7⟩, hf⟩ := hv
    obtain ⟨⟨x, l⟩, hN⟩ : ∃ p : Int × Int, N s f k = p := ⟨_, rfl⟩
    have c10 := fun w => next_is h0 h7 hf hk hN w
    have c12 := fun w => rnext_is h0 h7 hf hk hN w
    have c13 := fun w => kind_is hk w
    have c14 := fun w => rkind_is hk w
    have c15 := fun w => begins_is hf hk w
    clear hk hN h0 h7
    rcases hf with rfl | rfl
    all_goals
      go_enter Try.func7, Try.ntmps7
      go_wp2_with (first | (go_at_call 10; (with_reducible refine (c10 _).mono ?_); rintro e w1 ⟨rfl, hb1⟩) | (go_at_call 12; (with_reducible refine (c12 _).mono ?_); rintro e w2 ⟨rfl, rfl⟩) | (go_at_call 13; (with_reducible refine (c13 _).mono ?_); rintro e w2 ⟨rfl, rfl⟩) | (go_at_call 14; (with_reducible refine (c14 _).mono ?_); rintro e w2 ⟨rfl, rfl⟩) | (go_at_call 15; (with_reducible refine (c15 _).mono ?_); rintro e w2 ⟨rfl, rfl⟩) | (go_at_call 9; (with_reducible refine (wakes_any _).mono ?_); rintro e w2 ⟨rfl, hb2⟩))
      go_ret
      exact ⟨rfl, hb1.trans (hb2.mono hb1.size)⟩
  · by_cases hf : f = 4 ∨ f = 6
    · have c10 := fun w => next_no s f g w (by omega)
      have c12 := fun w => rnext_no s f g w (by omega)
      have c13 := fun w => kind_is hk w
      have c14 := fun w => rkind_is hk w
      have c15 := fun w => begins_is hf hk w
      clear hk hv
      rcases hf with rfl | rfl
      all_goals
        go_enter Try.func7, Try.ntmps7
        go_wp2_with (first | (go_at_call 10; (with_reducible refine (c10 _).mono ?_); rintro e w1 ⟨rfl, hb1⟩) | (go_at_call 12; (with_reducible refine (c12 _).mono ?_); rintro e w2 ⟨rfl, rfl⟩) | (go_at_call 13; (with_reducible refine (c13 _).mono ?_); rintro e w2 ⟨rfl, rfl⟩) | (go_at_call 14; (with_reducible refine (c14 _).mono ?_); rintro e w2 ⟨rfl, rfl⟩) | (go_at_call 15; (with_reducible refine (c15 _).mono ?_); rintro e w2 ⟨rfl, rfl⟩) | (go_at_call 9; (with_reducible refine (wakes_any _).mono ?_); rintro e w2 ⟨rfl, hb2⟩))
        go_ret
        exact ⟨rfl, hb1.trans (hb2.mono hb1.size)⟩
    · have h4 : (f == 4) = false := by simp; omega
      have h6 : (f == 6) = false := by simp; omega
      have c10 := fun w => next_no s f g w (by omega)
      have c12 := fun w => rnext_no s f g w (by omega)
      have c13 := fun w => kind_is hk w
      have c14 := fun w => rkind_is hk w
      have c15 := fun w => begins_f f g w h4 h6
      clear hk hv hf
      go_enter Try.func7, Try.ntmps7
      go_wp2_with (first | (go_at_call 10; (with_reducible refine (c10 _).mono ?_); rintro e w1 ⟨rfl, hb1⟩) | (go_at_call 12; (with_reducible refine (c12 _).mono ?_); rintro e w2 ⟨rfl, rfl⟩) | (go_at_call 13; (with_reducible refine (c13 _).mono ?_); rintro e w2 ⟨rfl, rfl⟩) | (go_at_call 14; (with_reducible refine (c14 _).mono ?_); rintro e w2 ⟨rfl, rfl⟩) | (go_at_call 15; (with_reducible refine (c15 _).mono ?_); rintro e w2 ⟨rfl, rfl⟩) | (go_at_call 9; (with_reducible refine (wakes_any _).mono ?_); rintro e w2 ⟨rfl, hb2⟩))
      go_ret
      exact ⟨rfl, hb1.trans (hb2.mono hb1.size)⟩
end Go.Proofs.Ytgjgbcakhmphlaa
