/-
  The walk of the law TcpsmKnown: it returns true, and what was there stays. No condition.
-/
import Derived.Test.YtgjgbcakhmphlaaH
namespace Go.Proofs.Ytgjgbcakhmphlaa
open Go.RowKit Go.Maps Go.WideMaps
set_option linter.unusedSimpArgs false

def kS (k : Nat) : Int := ([0, 0, 0, 2, 1, 1, 3, 3, 4, 4, 5, 5, 6, 3, 7, 7, 8, -1, 3] : List Int).getD k 0
def kF (k : Nat) : Int := ([6, 4, 6, 4, 6, 4, 4, 6, 6, 4, 4, 6, 6, 6, 4, 4, 4, 4, 5] : List Int).getD k 0
def kG (k : Nat) : Int := ([2, 2, 16, 18, 2, 2, 17, 17, 1, 1, 1, 4, 2, 4, 4, 16, 0, 0, 0] : List Int).getD k 0
def kN (k : Nat) : Int := ([2, 1, 0, 3, 3, 1, 4, 5, 6, 4, 6, 5, 6, 7, 7, 3, 0, 0, 0] : List Int).getD k 0
def kL (k : Nat) : Int := ([2, 2, 0, 1, 1, 0, 1, 1, 2, 1, 2, 1, 0, 2, 0, 1, 0, 0, 0] : List Int).getD k 0
def kO (k : Nat) : Bool := ([true, true, true, true, true, true, true, true, true, true, true, true, true, true, true, true, false, false, false] : List Bool).getD k false
abbrev WK (w : World) : World := w.alloc (.cells #[.int .i64 0, .int .i64 6, .int .i64 2, .int .i64 2, .int .i64 2, .bool true, .int .i64 0, .int .i64 4, .int .i64 2, .int .i64 1, .int .i64 2, .bool true, .int .i64 0, .int .i64 6, .int .i64 16, .int .i64 0, .int .i64 0, .bool true, .int .i64 2, .int .i64 4, .int .i64 18, .int .i64 3, .int .i64 1, .bool true, .int .i64 1, .int .i64 6, .int .i64 2, .int .i64 3, .int .i64 1, .bool true, .int .i64 1, .int .i64 4, .int .i64 2, .int .i64 1, .int .i64 0, .bool true, .int .i64 3, .int .i64 4, .int .i64 17, .int .i64 4, .int .i64 1, .bool true, .int .i64 3, .int .i64 6, .int .i64 17, .int .i64 5, .int .i64 1, .bool true, .int .i64 4, .int .i64 6, .int .i64 1, .int .i64 6, .int .i64 2, .bool true, .int .i64 4, .int .i64 4, .int .i64 1, .int .i64 4, .int .i64 1, .bool true, .int .i64 5, .int .i64 4, .int .i64 1, .int .i64 6, .int .i64 2, .bool true, .int .i64 5, .int .i64 6, .int .i64 4, .int .i64 5, .int .i64 1, .bool true, .int .i64 6, .int .i64 6, .int .i64 2, .int .i64 6, .int .i64 0, .bool true, .int .i64 3, .int .i64 6, .int .i64 4, .int .i64 7, .int .i64 2, .bool true, .int .i64 7, .int .i64 4, .int .i64 4, .int .i64 7, .int .i64 0, .bool true, .int .i64 7, .int .i64 4, .int .i64 16, .int .i64 3, .int .i64 1, .bool true, .int .i64 8, .int .i64 4, .int .i64 0, .int .i64 0, .int .i64 0, .bool false, .int .i64 (-1), .int .i64 4, .int .i64 0, .int .i64 0, .int .i64 0, .bool false, .int .i64 3, .int .i64 5, .int .i64 0, .int .i64 0, .int .i64 0, .bool false] 33)
theorem kcases {k : Nat} (hk : k < 19) : k = 0 ∨ k = 1 ∨ k = 2 ∨ k = 3 ∨ k = 4 ∨ k = 5 ∨ k = 6 ∨ k = 7 ∨ k = 8 ∨ k = 9 ∨ k = 10 ∨ k = 11 ∨ k = 12 ∨ k = 13 ∨ k = 14 ∨ k = 15 ∨ k = 16 ∨ k = 17 ∨ k = 18 := by omega
theorem cell_rows (w : World) (k : Nat) (hk : k < 19) : (WK w).cell? ⟨w.heap.size, k * 6, none⟩ = some (.int .i64 (kS k)) ∧ (WK w).cell? ⟨w.heap.size, k * 6 + 1, none⟩ = some (.int .i64 (kF k)) ∧ (WK w).cell? ⟨w.heap.size, k * 6 + 2, none⟩ = some (.int .i64 (kG k))
    ∧ (WK w).cell? ⟨w.heap.size, k * 6 + 3, none⟩ = some (.int .i64 (kN k)) ∧ (WK w).cell? ⟨w.heap.size, k * 6 + 4, none⟩ = some (.int .i64 (kL k)) ∧ (WK w).cell? ⟨w.heap.size, k * 6 + 5, none⟩ = some (.bool (kO k)) := by
  have h := kcases hk
  unfold World.cell?
  rw [(MapKept.heap_alloc w _).1]
  rcases h with rfl | rfl | rfl | rfl | rfl | rfl | rfl | rfl | rfl | rfl | rfl | rfl | rfl | rfl | rfl | rfl | rfl | rfl | rfl <;> exact ⟨rfl, rfl, rfl, rfl, rfl, rfl⟩
theorem known_kd (g k : Int) (h : (if g / 4 % 2 = 1 then 4 else if g % 2 = 1 then 1 else if g / 2 % 2 = 1 then 2 else 0) = k) : kd g = k := by rw [kd_eq]; exact h
theorem next_row (k : Nat) (hk : k < 19) (w : World) : Calls Try.prog 10 #[.int .i64 (kS k), .int .i64 (kF k), .int .i64 (kG k)] w fun e w' => e = .returned (.tuple #[.int .i64 (kN k), .int .i64 (kL k), .bool (kO k)]) ∧ Below w.heap.size w w' := by
  rcases kcases hk with rfl | rfl | rfl | rfl | rfl | rfl | rfl | rfl | rfl | rfl | rfl | rfl | rfl | rfl | rfl | rfl | rfl | rfl | rfl
  · exact next_is (s := 0) (f := 6) (g := 2) (x := 2) (l := 2) (by omega) (by omega) (by omega) (known_kd 2 2 (by decide)) rfl w
  · exact next_is (s := 0) (f := 4) (g := 2) (x := 1) (l := 2) (by omega) (by omega) (by omega) (known_kd 2 2 (by decide)) rfl w
  · exact next_is (s := 0) (f := 6) (g := 16) (x := 0) (l := 0) (by omega) (by omega) (by omega) (known_kd 16 0 (by decide)) rfl w
  · exact next_is (s := 2) (f := 4) (g := 18) (x := 3) (l := 1) (by omega) (by omega) (by omega) (known_kd 18 2 (by decide)) rfl w
  · exact next_is (s := 1) (f := 6) (g := 2) (x := 3) (l := 1) (by omega) (by omega) (by omega) (known_kd 2 2 (by decide)) rfl w
  · exact next_is (s := 1) (f := 4) (g := 2) (x := 1) (l := 0) (by omega) (by omega) (by omega) (known_kd 2 2 (by decide)) rfl w
  · exact next_is (s := 3) (f := 4) (g := 17) (x := 4) (l := 1) (by omega) (by omega) (by omega) (known_kd 17 1 (by decide)) rfl w
  · exact next_is (s := 3) (f := 6) (g := 17) (x := 5) (l := 1) (by omega) (by omega) (by omega) (known_kd 17 1 (by decide)) rfl w
  · exact next_is (s := 4) (f := 6) (g := 1) (x := 6) (l := 2) (by omega) (by omega) (by omega) (known_kd 1 1 (by decide)) rfl w
  · exact next_is (s := 4) (f := 4) (g := 1) (x := 4) (l := 1) (by omega) (by omega) (by omega) (known_kd 1 1 (by decide)) rfl w
  · exact next_is (s := 5) (f := 4) (g := 1) (x := 6) (l := 2) (by omega) (by omega) (by omega) (known_kd 1 1 (by decide)) rfl w
  · exact next_is (s := 5) (f := 6) (g := 4) (x := 5) (l := 1) (by omega) (by omega) (by omega) (known_kd 4 4 (by decide)) rfl w
  · exact next_is (s := 6) (f := 6) (g := 2) (x := 6) (l := 0) (by omega) (by omega) (by omega) (known_kd 2 2 (by decide)) rfl w
  · exact next_is (s := 3) (f := 6) (g := 4) (x := 7) (l := 2) (by omega) (by omega) (by omega) (known_kd 4 4 (by decide)) rfl w
  · exact next_is (s := 7) (f := 4) (g := 4) (x := 7) (l := 0) (by omega) (by omega) (by omega) (known_kd 4 4 (by decide)) rfl w
  · exact next_is (s := 7) (f := 4) (g := 16) (x := 3) (l := 1) (by omega) (by omega) (by omega) (known_kd 16 0 (by decide)) rfl w
  · exact next_no (8) 4 0 w (by omega)
  · exact next_no (-1) 4 0 w (by omega)
  · exact next_no (3) 5 0 w (by omega)
end Go.Proofs.Ytgjgbcakhmphlaa
