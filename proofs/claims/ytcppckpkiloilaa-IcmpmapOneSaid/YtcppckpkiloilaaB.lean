/-
  Contracts of icmpmap.Plateau and of the reference's Plateau: both answer pl. No condition.
-/
import Derived.Test.YtcppckpkiloilaaA
namespace Go.Proofs.Ytcppckpkiloilaa
open Go.RowKit

def pl (n : Int) : Int :=
  if 65535 < n then 65535 else if 32000 < n then 32000 else if 17914 < n then 17914 else if 8166 < n then 8166 else if 4352 < n then 4352 else if 2002 < n then 2002
  else if 1492 < n then 1492 else if 1006 < n then 1006 else if 508 < n then 508 else if 296 < n then 296 else 68
theorem ret_i {a b : Int} (h : a = b) : Ending.returned (.int .i64 a) = Ending.returned (.int .i64 b) := by rw [h]
theorem pl_range (n : Int) : 68 ≤ pl n ∧ pl n ≤ 65535 := by unfold pl; (repeat' split) <;> omega

set_option maxHeartbeats 2000000 in
theorem plateau_any (n : Int) (w : World) : Calls Try.prog 14 #[.int .i64 n] w fun e w' => e = .returned (.int .i64 (pl n)) ∧ Below w.heap.size w w' := by
  go_enter Try.func14, Try.ntmps14
  go_wp2
  go_rounds 11
  all_goals
    go_ret
    exact ⟨ret_i (by unfold pl; (repeat' split) <;> omega), (Below.refl _ _).alloc (Nat.le_refl _) _⟩

def tbl (k : Nat) : Int := ([68, 296, 508, 1006, 1492, 2002, 4352, 8166, 17914, 32000, 65535] : List Int).getD k 0
/-- The greatest of the first k that is less than n; 68, if there is none. -/
def bst (n : Int) : Nat → Int
  | 0 => 68
  | k + 1 => if tbl k < n then tbl k else bst n k
theorem bst_pl (n : Int) : bst n 11 = pl n := by
  have h : bst n 11 = if 65535 < n then 65535 else if 32000 < n then 32000 else if 17914 < n then 17914 else if 8166 < n then 8166 else if 4352 < n then 4352 else if 2002 < n then 2002 else if 1492 < n then 1492 else if 1006 < n then 1006 else if 508 < n then 508 else if 296 < n then 296 else if 68 < n then 68 else 68 := rfl
  rw [h]
  unfold pl
  (repeat' split) <;> rfl
abbrev W11 (w : World) : World := w.alloc (.cells #[.int .i64 68, .int .i64 296, .int .i64 508, .int .i64 1006, .int .i64 1492, .int .i64 2002, .int .i64 4352, .int .i64 8166, .int .i64 17914, .int .i64 32000, .int .i64 65535] 3)
theorem cell_tbl (w : World) (k : Nat) (hk : k < 11) : (W11 w).cell? ⟨w.heap.size, k, none⟩ = some (.int .i64 (tbl k)) := by
  have h : k = 0 ∨ k = 1 ∨ k = 2 ∨ k = 3 ∨ k = 4 ∨ k = 5 ∨ k = 6 ∨ k = 7 ∨ k = 8 ∨ k = 9 ∨ k = 10 := by omega
  unfold World.cell?
  rw [(MapKept.heap_alloc w _).1]
  rcases h with rfl | rfl | rfl | rfl | rfl | rfl | rfl | rfl | rfl | rfl | rfl <;> rfl
set_option maxHeartbeats 2000000 in
theorem rplateau_any (n : Int) (w : World) : Calls Try.prog 17 #[.int .i64 n] w fun e w' => e = .returned (.int .i64 (pl n)) ∧ Below w.heap.size w w' := by
  have hc := Lib.hid (cell_tbl w)
  go_enter Try.func17, Try.ntmps17
  go_wp2
  go_loop [4, 5] (fun t i => ∃ k : Nat, k ≤ 11 ∧ i = .int .i64 k ∧ t = .int .i64 (bst n k)) (fun _ i => 11 - (intOf i).toNat)
  case atStart => exact ⟨0, Nat.zero_le _, rfl, rfl⟩
  case round =>
    obtain ⟨k, hk, rfl, rfl⟩ := hrel
    by_cases hlt : k < 11
    · have c0 := hc.out k hlt
      by_cases ht : tbl k < n
      · have hb : Hid (bst n (k + 1) = tbl k) := Lib.hid (by rw [bst, if_pos ht])
        generalize tbl k = t at *
        go_wp2
        go_round
        case rel => exact ⟨k + 1, by omega, by go_num, by rw [hb.out]⟩
        case measure => simp [intOf]; omega
      · have hb : Hid (bst n (k + 1) = bst n k) := Lib.hid (by rw [bst, if_neg ht])
        generalize tbl k = t at *
        go_wp2
        go_round
        case rel => exact ⟨k + 1, by omega, by go_num, by rw [hb.out]⟩
        case measure => simp [intOf]; omega
    · obtain rfl : k = 11 := by omega
      go_wp2
      go_ret
      exact ⟨ret_i (bst_pl n), (Below.refl _ _).alloc (Nat.le_refl _) _⟩
end Go.Proofs.Ytcppckpkiloilaa
