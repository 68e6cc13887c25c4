/-
  The lines of the reference's tables say what t6, t4 say, outside of what is reckoned. Conditions stand in each statement.
-/
import Derived.Test.YtcppckpkiloilaaO
namespace Go.Proofs.Ytcppckpkiloilaa
open Go.RowKit
set_option linter.unusedVariables false

theorem fnd_none {k c : Int} : ∀ {ls : List Line}, (∀ l ∈ ls, ¬ (l.k = k ∧ l.c = c)) → fnd k c ls = none
  | [], _ => rfl
  | l :: ls, h => by
    rw [fnd, if_neg (h l (by simp))]
    exact fnd_none fun x hx => h x (by simp [hx])
theorem fnd_mem {k c x y z : Int} : ∀ {ls : List Line}, fnd k c ls = some (x, y, z) → ∃ l ∈ ls, l.r = z
  | [], h => by cases h
  | l :: ls, h => by
    rw [fnd] at h
    by_cases hc : l.k = k ∧ l.c = c
    · rw [if_pos hc] at h
      simp only [Option.some.injEq, Prod.mk.injEq] at h
      exact ⟨l, by simp, h.2.2⟩
    · rw [if_neg hc] at h
      obtain ⟨m, hm, e⟩ := fnd_mem h
      exact ⟨m, by simp [hm], e⟩

set_option maxHeartbeats 4000000 in
theorem fnd6 (k c r a b n : Int) (h1 : ¬ (k = 3 ∧ c = 4)) (h2 : ¬ (k = 12 ∧ (c = 0 ∨ c = 2))) : fnd k c (L2 r 4) = u6 k c r a b n := by
  show fnd k c [⟨8, 0, 128, 0, r⟩, ⟨0, 0, 129, 0, r⟩, ⟨3, 3, 1, 4, 0⟩, ⟨3, 2, 4, 1, 6⟩, ⟨11, 0, 3, 0, 0⟩, ⟨11, 1, 3, 1, 0⟩, ⟨3, 0, 1, 0, 0⟩, ⟨3, 1, 1, 0, 0⟩, ⟨3, 5, 1, 0, 0⟩, ⟨3, 6, 1, 0, 0⟩, ⟨3, 7, 1, 0, 0⟩, ⟨3, 8, 1, 0, 0⟩, ⟨3, 11, 1, 0, 0⟩, ⟨3, 12, 1, 0, 0⟩, ⟨3, 9, 1, 1, 0⟩, ⟨3, 10, 1, 1, 0⟩, ⟨3, 13, 1, 1, 0⟩, ⟨3, 15, 1, 1, 0⟩] = _
  by_cases H : (k = 8 ∧ c = 0) ∨ (k = 0 ∧ c = 0) ∨ (k = 3 ∧ c = 3) ∨ (k = 3 ∧ c = 2) ∨ (k = 11 ∧ c = 0) ∨ (k = 11 ∧ c = 1) ∨ (k = 3 ∧ c = 0) ∨ (k = 3 ∧ c = 1) ∨ (k = 3 ∧ c = 5) ∨ (k = 3 ∧ c = 6) ∨ (k = 3 ∧ c = 7) ∨ (k = 3 ∧ c = 8) ∨ (k = 3 ∧ c = 11) ∨ (k = 3 ∧ c = 12) ∨ (k = 3 ∧ c = 9) ∨ (k = 3 ∧ c = 10) ∨ (k = 3 ∧ c = 13) ∨ (k = 3 ∧ c = 15)
  · rcases H with ⟨rfl, rfl⟩ | ⟨rfl, rfl⟩ | ⟨rfl, rfl⟩ | ⟨rfl, rfl⟩ | ⟨rfl, rfl⟩ | ⟨rfl, rfl⟩ | ⟨rfl, rfl⟩ | ⟨rfl, rfl⟩ | ⟨rfl, rfl⟩ | ⟨rfl, rfl⟩ | ⟨rfl, rfl⟩ | ⟨rfl, rfl⟩ | ⟨rfl, rfl⟩ | ⟨rfl, rfl⟩ | ⟨rfl, rfl⟩ | ⟨rfl, rfl⟩ | ⟨rfl, rfl⟩ | ⟨rfl, rfl⟩ <;> rfl
  · rw [fnd_none (by
      intro l hl
      simp only [List.mem_cons, List.not_mem_nil, or_false] at hl
      rcases hl with rfl | rfl | rfl | rfl | rfl | rfl | rfl | rfl | rfl | rfl | rfl | rfl | rfl | rfl | rfl | rfl | rfl | rfl <;> (intro h; obtain ⟨g1, g2⟩ := h; dsimp only at g1 g2; subst g1 g2; exact H (by decide)))]
    by_cases k3 : k = 3
    · subst k3
      unfold u6 l6
      rw [if_neg (fun h => absurd h.1 (by decide)), if_neg (fun h => absurd h.1 (by decide)), if_pos rfl, if_neg (by rintro (rfl | rfl | rfl | rfl | rfl | rfl | rfl | rfl) <;> exact H (by decide)), if_neg (by rintro (rfl | rfl | rfl | rfl) <;> exact H (by decide)), if_neg (by rintro rfl; exact H (by decide)), if_neg (by rintro rfl; exact H (by decide)), if_neg (by rintro rfl; exact h1 ⟨rfl, rfl⟩)]
    · unfold u6
      rw [if_neg (by rintro ⟨rfl, rfl⟩; exact H (by decide)), if_neg (by rintro ⟨rfl, rfl⟩; exact H (by decide)), if_neg k3, if_neg (by rintro ⟨rfl, rfl | rfl⟩ <;> exact H (by decide)), if_neg h2]
theorem fnd6_z {k c r x y z : Int} (hr : 0 ≤ r) (hr' : r < 4294967296) (h : fnd k c (L2 r 4) = some (x, y, z)) : 0 ≤ z ∧ z < 4294967296 := by
  obtain ⟨l, hl, rfl⟩ := fnd_mem (ls := [⟨8, 0, 128, 0, r⟩, ⟨0, 0, 129, 0, r⟩, ⟨3, 3, 1, 4, 0⟩, ⟨3, 2, 4, 1, 6⟩, ⟨11, 0, 3, 0, 0⟩, ⟨11, 1, 3, 1, 0⟩, ⟨3, 0, 1, 0, 0⟩, ⟨3, 1, 1, 0, 0⟩, ⟨3, 5, 1, 0, 0⟩, ⟨3, 6, 1, 0, 0⟩, ⟨3, 7, 1, 0, 0⟩, ⟨3, 8, 1, 0, 0⟩, ⟨3, 11, 1, 0, 0⟩, ⟨3, 12, 1, 0, 0⟩, ⟨3, 9, 1, 1, 0⟩, ⟨3, 10, 1, 1, 0⟩, ⟨3, 13, 1, 1, 0⟩, ⟨3, 15, 1, 1, 0⟩]) h
  simp only [List.mem_cons, List.not_mem_nil, or_false] at hl
  rcases hl with rfl | rfl | rfl | rfl | rfl | rfl | rfl | rfl | rfl | rfl | rfl | rfl | rfl | rfl | rfl | rfl | rfl | rfl <;> (dsimp only; omega)
/-- The lines of To4. -/
def J4 (r : Int) : List Line := [⟨128, 0, 8, 0, r⟩, ⟨129, 0, 0, 0, r⟩, ⟨1, 0, 3, 1, 0⟩, ⟨1, 2, 3, 1, 0⟩, ⟨1, 3, 3, 1, 0⟩, ⟨1, 1, 3, 10, 0⟩, ⟨1, 4, 3, 3, 0⟩, ⟨3, 0, 11, 0, 0⟩, ⟨3, 1, 11, 1, 0⟩, ⟨4, 1, 3, 2, 0⟩]
set_option maxHeartbeats 4000000 in
theorem fnd4 (k c r a b : Int) (h1 : ¬ (k = 2 ∧ c = 0)) (h2 : ¬ (k = 4 ∧ c = 0)) : fnd k c (J4 r) = u4 k c r a b := by
  show fnd k c [⟨128, 0, 8, 0, r⟩, ⟨129, 0, 0, 0, r⟩, ⟨1, 0, 3, 1, 0⟩, ⟨1, 2, 3, 1, 0⟩, ⟨1, 3, 3, 1, 0⟩, ⟨1, 1, 3, 10, 0⟩, ⟨1, 4, 3, 3, 0⟩, ⟨3, 0, 11, 0, 0⟩, ⟨3, 1, 11, 1, 0⟩, ⟨4, 1, 3, 2, 0⟩] = _
  by_cases H : (k = 128 ∧ c = 0) ∨ (k = 129 ∧ c = 0) ∨ (k = 1 ∧ c = 0) ∨ (k = 1 ∧ c = 2) ∨ (k = 1 ∧ c = 3) ∨ (k = 1 ∧ c = 1) ∨ (k = 1 ∧ c = 4) ∨ (k = 3 ∧ c = 0) ∨ (k = 3 ∧ c = 1) ∨ (k = 4 ∧ c = 1)
  · rcases H with ⟨rfl, rfl⟩ | ⟨rfl, rfl⟩ | ⟨rfl, rfl⟩ | ⟨rfl, rfl⟩ | ⟨rfl, rfl⟩ | ⟨rfl, rfl⟩ | ⟨rfl, rfl⟩ | ⟨rfl, rfl⟩ | ⟨rfl, rfl⟩ | ⟨rfl, rfl⟩ <;> rfl
  · rw [fnd_none (by
      intro l hl
      simp only [List.mem_cons, List.not_mem_nil, or_false] at hl
      rcases hl with rfl | rfl | rfl | rfl | rfl | rfl | rfl | rfl | rfl | rfl <;> (intro h; obtain ⟨g1, g2⟩ := h; dsimp only at g1 g2; subst g1 g2; exact H (by decide)))]
    by_cases k1 : k = 1
    · subst k1
      unfold u4 l4
      rw [if_neg (fun h => absurd h.1 (by decide)), if_neg (fun h => absurd h.1 (by decide)), if_pos rfl, if_neg (by rintro (rfl | rfl | rfl) <;> exact H (by decide)), if_neg (by rintro rfl; exact H (by decide)), if_neg (by rintro rfl; exact H (by decide))]
    · unfold u4
      rw [if_neg (by rintro ⟨rfl, rfl⟩; exact H (by decide)), if_neg (by rintro ⟨rfl, rfl⟩; exact H (by decide)), if_neg k1, if_neg h1, if_neg (by rintro ⟨rfl, rfl | rfl⟩ <;> exact H (by decide)), if_neg h2, if_neg (by rintro ⟨rfl, rfl⟩; exact H (by decide))]
theorem fnd4_z {k c r x y z : Int} (hr : 0 ≤ r) (hr' : r < 4294967296) (h : fnd k c (J4 r) = some (x, y, z)) : 0 ≤ z ∧ z < 4294967296 := by
  obtain ⟨l, hl, rfl⟩ := fnd_mem (ls := [⟨128, 0, 8, 0, r⟩, ⟨129, 0, 0, 0, r⟩, ⟨1, 0, 3, 1, 0⟩, ⟨1, 2, 3, 1, 0⟩, ⟨1, 3, 3, 1, 0⟩, ⟨1, 1, 3, 10, 0⟩, ⟨1, 4, 3, 3, 0⟩, ⟨3, 0, 11, 0, 0⟩, ⟨3, 1, 11, 1, 0⟩, ⟨4, 1, 3, 2, 0⟩]) h
  simp only [List.mem_cons, List.not_mem_nil, or_false] at hl
  rcases hl with rfl | rfl | rfl | rfl | rfl | rfl | rfl | rfl | rfl | rfl <;> (dsimp only; omega)
end Go.Proofs.Ytcppckpkiloilaa
