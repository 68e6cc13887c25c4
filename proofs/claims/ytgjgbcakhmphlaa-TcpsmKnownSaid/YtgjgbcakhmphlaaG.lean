/-
  Contracts of tcpsm.Begins, of the law's wakes, and of Seg.side. Conditions stand in each statement.
-/
import Derived.Test.YtgjgbcakhmphlaaF
namespace Go.Proofs.Ytgjgbcakhmphlaa
open Go.RowKit Go.Maps Go.WideMaps

set_option maxHeartbeats 400000 in
theorem begins_t (f g : Int) (w : World) (hf : f = 4 ∨ f = 6) : Calls Try.prog 15 #[.int .i64 f, .int .i64 g] w fun e w' => e = .returned (.bool (kd g == 2)) ∧ w = w' := by
  have hf' := Lib.hid hf
  clear hf
  go_enter Try.func15, Try.ntmps15
  go_wp2_with (first | (go_at_call 16; refine (side_t _ _ hf'.out).mono ?_; rintro e w' ⟨rfl, rfl⟩) | (go_at_call 13; refine (kind_any _ _).mono ?_; rintro e w' ⟨rfl, rfl⟩))
  go_ret
  exact ⟨rfl, rfl⟩
set_option maxHeartbeats 400000 in
theorem begins_f (f g : Int) (w : World) (h4 : (f == 4) = false) (h6 : (f == 6) = false) : Calls Try.prog 15 #[.int .i64 f, .int .i64 g] w fun e w' => e = .returned (.bool false) ∧ w = w' := by
  go_enter Try.func15, Try.ntmps15
  go_wp2_with (first | (go_at_call 16; refine (side_f _ _ h4 h6).mono ?_; rintro e w' ⟨rfl, rfl⟩) | (go_at_call 13; refine (kind_any _ _).mono ?_; rintro e w' ⟨rfl, rfl⟩))
  go_ret
  exact ⟨rfl, rfl⟩

theorem kd2 : kd 2 = 2 := by rw [kd_eq]; decide
theorem kd18 : kd 18 = 2 := by rw [kd_eq]; decide

theorem next_is {s f g x l : Int} (h0 : 0 ≤ s) (h7 : s ≤ 7) (hf : f = 4 ∨ f = 6) {k : Int} (hk : kd g = k) (hN : N s f k = (x, l)) (w : World) :
    Calls Try.prog 10 #[.int .i64 s, .int .i64 f, .int .i64 g] w fun e w' => e = .returned (.tuple #[.int .i64 x, .int .i64 l, .bool true]) ∧ Below w.heap.size w w' := by
  have h := next_ok s f g w h0 h7 hf
  rw [hk, hN] at h
  exact h
theorem kind_is {g k : Int} (hk : kd g = k) (w : World) : Calls Try.prog 13 #[.int .i64 g] w fun e w' => e = .returned (.int .i64 k) ∧ w = w' := by
  rw [← hk]; exact kind_any g w

set_option maxHeartbeats 400000 in
theorem wakes_any (w : World) : Calls Try.prog 9 #[] w fun e w' => e = .returned (.bool true) ∧ Below w.heap.size w w' := by
  have c1 := fun w => next_is (s := 0) (f := 6) (g := 2) (x := 2) (l := 2) (by omega) (by omega) (by omega) kd2 rfl w
  have c2 := fun w => next_is (s := 2) (f := 4) (g := 18) (x := 3) (l := 1) (by omega) (by omega) (by omega) kd18 rfl w
  have c3 := fun w => kind_is kd18 w
  go_enter Try.func9, Try.ntmps9
  go_wp2_with (first | (go_at_call 10; (with_reducible refine (c1 _).mono ?_); rintro e w1 ⟨rfl, hb1⟩) | (go_at_call 10; (with_reducible refine (c2 _).mono ?_); rintro e w2 ⟨rfl, hb2⟩) | (go_at_call 13; refine (c3 _).mono ?_; rintro e w' ⟨rfl, rfl⟩))
  go_ret
  exact ⟨rfl, hb1.trans (hb2.mono hb1.size)⟩

set_option maxHeartbeats 400000 in
theorem segside_any (b : Bool) (g : Int) (w : World) : Calls Try.prog 11 #[.agg #[.bool b, .int .i64 g]] w fun e w' => e = .returned (.int .i64 (if b then 6 else 4)) ∧ Below w.heap.size w w' := by
  cases b
  all_goals
    go_enter Try.func11, Try.ntmps11
    go_wp2
    go_ret
    exact ⟨rfl, (Below.refl _ _).alloc (Nat.le_refl _) _⟩
end Go.Proofs.Ytgjgbcakhmphlaa
