/-
  The table (N) beside the map: at each state, side and kind the map answers as N; contracts of tcpsm.side and tcpsm.Kind. Conditions stand in each statement.
-/
import Derived.Test.YtgjgbcakhmphlaaC
namespace Go.Proofs.Ytgjgbcakhmphlaa
open Go.RowKit Go.Maps Go.WideMaps

/-- The next state and the life, by the table. -/
def N (s f k : Int) : Int × Int :=
  if s = 0 then (if k = 2 ∧ f = 6 then (2, 2) else if k = 2 then (1, 2) else (0, 0))
  else if s = 1 then (if k = 2 ∧ f = 6 then (3, 1) else (1, 0))
  else if s = 2 then (if k = 2 ∧ f = 4 then (3, 1) else if k = 2 then (2, 2) else (2, 0))
  else if s = 3 then (if k = 1 then (if f = 4 then (4, 1) else (5, 1)) else if k = 4 then (7, 2) else (3, 1))
  else if s = 4 then (if k = 1 ∧ f = 6 then (6, 2) else (4, 1))
  else if s = 5 then (if k = 1 ∧ f = 4 then (6, 2) else (5, 1))
  else if s = 7 then (if k ≠ 4 then (3, 1) else (7, 0))
  else (s, 0)

def isOn (d : DataW Unit) (x l : Int) : Bool := match d with
  | .agg [.lit (.int .i64 a), .lit (.int .i64 b)] => a == x && b == l
  | _ => false
theorem isOn_eq {d : DataW Unit} {x l : Int} (h : isOn d x l = true) : d = onD x l := by
  unfold isOn at h
  split at h
  · simp at h; obtain ⟨rfl, rfl⟩ := h; rfl
  · cases h
def chk (s f k : Int) : Bool :=
  if Maps.has DC (kl s f k) then isOn (DC.atKey (kl s f k) (onD 0 0)) (N s f k).1 (N s f k).2 else N s f k == (s, 0)
theorem chk_all : ([0, 1, 2, 3, 4, 5, 6, 7] : List Int).all (fun s => ([4, 6] : List Int).all fun f => ([0, 1, 2, 4] : List Int).all fun k => chk s f k) = true := by kernel_rfl
theorem look {s f k : Int} (h0 : 0 ≤ s) (h7 : s ≤ 7) (hf : f = 4 ∨ f = 6) (hk : k = 0 ∨ k = 1 ∨ k = 2 ∨ k = 4) : chk s f k = true := by
  have h := chk_all
  rw [List.all_eq_true] at h
  have h1 := h s (by simp; omega)
  rw [List.all_eq_true] at h1
  have h2 := h1 f (by simp; omega)
  rw [List.all_eq_true] at h2
  exact h2 k (by simp; omega)

theorem onR_inv {v : Value} {z : DataW Unit × List MemPlace} (h : onR v = some z) : ∃ a b, v = .agg #[.int .i64 a, .int .i64 b] ∧ z = (onD a b, []) := by
  unfold onR at h
  split at h
  · rename_i cs
    split at h
    · rename_i a b hc
      cases h
      have : cs = #[.int .i64 a, .int .i64 b] := by rw [← hc]
      exact ⟨a, b, by rw [this], rfl⟩
    · cases h
  · cases h
theorem onD_inj {a b c d : Int} (h : onD a b = onD c d) : a = c ∧ b = d := by
  unfold onD at h
  simp at h
  exact h

/-- What a segment is. -/
def kd (g : Int) : Int := if (bits .and .i64 g 4 != 0) = true then 4 else if (bits .and .i64 g 1 != 0) = true then 1 else if (bits .and .i64 g 2 != 0) = true then 2 else 0
theorem kd_four (g : Int) : kd g = 0 ∨ kd g = 1 ∨ kd g = 2 ∨ kd g = 4 := by
  unfold kd; split
  · simp
  · split
    · simp
    · split <;> simp

set_option maxHeartbeats 400000 in
theorem side_t (n : Int) (w : World) (h : n = 4 ∨ n = 6) : Calls Try.prog 16 #[.int .i64 n] w fun e w' => e = .returned (.bool true) ∧ w = w' := by
  rcases h with rfl | rfl
  all_goals
    go_enter Try.func16, Try.ntmps16
    go_wp2
    go_ret
    exact ⟨rfl, rfl⟩
set_option maxHeartbeats 400000 in
theorem side_f (n : Int) (w : World) (h4 : (n == 4) = false) (h6 : (n == 6) = false) : Calls Try.prog 16 #[.int .i64 n] w fun e w' => e = .returned (.bool false) ∧ w = w' := by
  go_enter Try.func16, Try.ntmps16
  go_wp2
  go_ret
  exact ⟨rfl, rfl⟩

set_option maxHeartbeats 400000 in
theorem kind_any (g : Int) (w : World) :
    Calls Try.prog 13 #[.int .i64 g] w fun e w' => e = .returned (.int .i64 (kd g)) ∧ w = w' := by
  have i0 : ∀ w : World, (Instr.index 41 (.agg #[.int .i64 4, .int .i64 1, .int .i64 2]) (.int .i64 0)).run Try.prog w = .ok (.int .i64 4) w := fun _ => by kernel_rfl
  have i1 : ∀ w : World, (Instr.index 41 (.agg #[.int .i64 4, .int .i64 1, .int .i64 2]) (.int .i64 1)).run Try.prog w = .ok (.int .i64 1) w := fun _ => by kernel_rfl
  have i2 : ∀ w : World, (Instr.index 41 (.agg #[.int .i64 4, .int .i64 1, .int .i64 2]) (.int .i64 2)).run Try.prog w = .ok (.int .i64 2) w := fun _ => by kernel_rfl
  have hk : ∀ x : Int, x = kd g → Ending.returned (.int .i64 x) = Ending.returned (.int .i64 (kd g)) := fun x h => by rw [h]
  go_enter Try.func13, Try.ntmps13
  go_wp2
  refine wp_loop_rounds 4 ?_
  rw [rounds_succ]
  go_wp2
  · go_ret
    exact ⟨hk _ (by unfold kd; rw [if_pos (by assumption)]), rfl⟩
  · rw [rounds_succ]
    go_wp2
    · go_ret
      exact ⟨hk _ (by unfold kd; rw [if_neg (by simp_all), if_pos (by assumption)]), rfl⟩
    · rw [rounds_succ]
      go_wp2
      · go_ret
        exact ⟨hk _ (by unfold kd; rw [if_neg (by simp_all), if_neg (by simp_all), if_pos (by assumption)]), rfl⟩
      · rw [rounds_succ]
        go_wp2
        go_ret
        exact ⟨hk _ (by unfold kd; rw [if_neg (by simp_all), if_neg (by simp_all), if_neg (by simp_all)]), rfl⟩
end Go.Proofs.Ytgjgbcakhmphlaa
