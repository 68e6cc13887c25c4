/-
  The walk of the law TcpsmLives: it returns true, and what was there stays. Condition: the arguments fit their kind.
-/
import Derived.Test.YtgjgbcakhmphlaaG
namespace Go.Proofs.Ytgjgbcakhmphlaa
open Go.RowKit Go.Maps Go.WideMaps

theorem next_rfl {s f g k : Int} (h0 : 0 ≤ s) (h7 : s ≤ 7) (hf : f = 4 ∨ f = 6) (hk : kd g = k) {x l : Int} (hx : (N s f k).1 = x) (hl : (N s f k).2 = l) (w : World) :
    Calls Try.prog 10 #[.int .i64 s, .int .i64 f, .int .i64 g] w fun e w' => e = .returned (.tuple #[.int .i64 x, .int .i64 l, .bool true]) ∧ Below w.heap.size w w' :=
  next_is h0 h7 hf hk (by rw [← hx, ← hl]) w

set_option maxHeartbeats 4000000 in
theorem lives_ok (s f g : Int) (w : World) (h0 : 0 ≤ s) (h7 : s ≤ 7) (hf : f = 4 ∨ f = 6) :
    Calls Try.prog 5 #[.int .i64 s, .int .i64 f, .int .i64 g] w fun e w' => e = .returned (.bool true) ∧ Below w.heap.size w w' := by
  obtain ⟨k, hk⟩ : ∃ k, kd g = k := ⟨_, rfl⟩
  have hs : s = 0 ∨ s = 1 ∨ s = 2 ∨ s = 3 ∨ s = 4 ∨ s = 5 ∨ s = 6 ∨ s = 7 := by omega
  have h4 := kd_four g
  rw [hk] at h4
  obtain ⟨x, hx⟩ : ∃ x, (N s f k).1 = x := ⟨_, rfl⟩
  obtain ⟨l, hl⟩ : ∃ l, (N s f k).2 = l := ⟨_, rfl⟩
  have c10 := fun w => next_rfl h0 h7 hf hk hx hl w
  have c13 := fun w => kind_is hk w
  clear h0 h7 hk
  rcases hs with rfl | rfl | rfl | rfl | rfl | rfl | rfl | rfl <;> rcases hf with rfl | rfl <;> rcases h4 with rfl | rfl | rfl | rfl
  all_goals
    simp [N] at hx hl
    subst hx hl
    go_enter Try.func5, Try.ntmps5
    go_wp2_with (first | (go_at_call 10; (with_reducible refine (c10 _).mono ?_); rintro e w1 ⟨rfl, hb1⟩) | (go_at_call 13; (with_reducible refine (c13 _).mono ?_); rintro e w2 ⟨rfl, rfl⟩) | (go_at_call 9; (with_reducible refine (wakes_any _).mono ?_); rintro e w2 ⟨rfl, hb2⟩))
    go_ret
    exact ⟨rfl, hb1.trans (hb2.mono hb1.size)⟩

set_option maxHeartbeats 400000 in
theorem lives_no (s f g : Int) (w : World) (h : s < 0 ∨ 7 < s ∨ (f ≠ 4 ∧ f ≠ 6)) :
    Calls Try.prog 5 #[.int .i64 s, .int .i64 f, .int .i64 g] w fun e w' => e = .returned (.bool true) ∧ Below w.heap.size w w' := by
  have c10 := fun w => next_no s f g w h
  clear h
  go_enter Try.func5, Try.ntmps5
  go_wp2_with (first | (go_at_call 10; (with_reducible refine (c10 _).mono ?_); rintro e w1 ⟨rfl, hb1⟩) | (go_at_call 9; (with_reducible refine (wakes_any _).mono ?_); rintro e w2 ⟨rfl, hb2⟩))
  go_ret
  exact ⟨rfl, hb1.trans (hb2.mono hb1.size)⟩

theorem lives_walk (s f g : Int) (w : World) (_w0 : (Lit.int .i64 s).wf = true) (_w1 : (Lit.int .i64 f).wf = true) (_w2 : (Lit.int .i64 g).wf = true) :
    Calls Try.prog 5 #[.int .i64 s, .int .i64 f, .int .i64 g] w fun e w' => e = .returned (.bool true) ∧ Below w.heap.size w w' := by
  by_cases h : s < 0 ∨ 7 < s ∨ (f ≠ 4 ∧ f ≠ 6)
  · exact lives_no s f g w h
  · exact lives_ok s f g w (by omega) (by omega) (by omega)
end Go.Proofs.Ytgjgbcakhmphlaa
