/-
  The walk of the law IcmpmapPlateau: it returns true, and what was there stays. Condition: the arguments fit their kind.
-/
import Derived.Test.YtcppckpkiloilaaG
namespace Go.Proofs.Ytcppckpkiloilaa
open Go.RowKit

theorem pl_facts (n : Int) : (n ≤ 296 ∧ pl n = 68) ∨ (296 < n ∧ n ≤ 508 ∧ pl n = 296) ∨ (508 < n ∧ n ≤ 1006 ∧ pl n = 508) ∨ (1006 < n ∧ n ≤ 1492 ∧ pl n = 1006) ∨ (1492 < n ∧ n ≤ 2002 ∧ pl n = 1492) ∨ (2002 < n ∧ n ≤ 4352 ∧ pl n = 2002)
    ∨ (4352 < n ∧ n ≤ 8166 ∧ pl n = 4352) ∨ (8166 < n ∧ n ≤ 17914 ∧ pl n = 8166) ∨ (17914 < n ∧ n ≤ 32000 ∧ pl n = 17914) ∨ (32000 < n ∧ n ≤ 65535 ∧ pl n = 32000) ∨ (65535 < n ∧ pl n = 65535) := by
  unfold pl; (repeat' split) <;> omega
theorem plat_pure (a b : Int) (h : a ≤ b) : pl a ≤ pl b ∧ (pl b < b ∨ pl b = 68) ∧ (pl (pl b) < pl b ∨ pl b = 68) ∧ pl (pl b + 1) = pl b := by
  have fa := pl_facts a
  have fb := pl_facts b
  have hb : pl b = 65535 ∨ pl b = 32000 ∨ pl b = 17914 ∨ pl b = 8166 ∨ pl b = 4352 ∨ pl b = 2002 ∨ pl b = 1492 ∨ pl b = 1006 ∨ pl b = 508 ∨ pl b = 296 ∨ pl b = 68 := by omega
  refine ⟨?_, ?_, ?_, ?_⟩
  · rcases fb with fb | fb | fb | fb | fb | fb | fb | fb | fb | fb | fb <;> omega
  · clear fa; omega
  · rcases hb with h | h | h | h | h | h | h | h | h | h | h <;> rw [h] <;> decide
  · rcases hb with h | h | h | h | h | h | h | h | h | h | h <;> rw [h] <;> decide

set_option maxHeartbeats 4000000 in
theorem plat_le (a b : Int) (w : World) (h : a ≤ b) : Calls Try.prog 10 #[.int .i64 a, .int .i64 b] w fun e w' => e = .returned (.bool true) ∧ Below w.heap.size w w' := by
  obtain ⟨h1, h2, h3, h4⟩ := plat_pure a b h
  have hr := pl_range b
  obtain ⟨x, hx⟩ : ∃ x, pl a = x := ⟨_, rfl⟩
  obtain ⟨y, hy⟩ : ∃ y, pl b = y := ⟨_, rfl⟩
  rw [hx, hy] at h1
  rw [hy] at h2 h3 h4 hr
  obtain ⟨z, hz⟩ : ∃ z, pl y = z := ⟨_, rfl⟩
  rw [hz] at h3
  have ca := fun w => plateau_is hx w
  have cb := fun w => plateau_is hy w
  have cy := fun w => plateau_is hz w
  have c1 := fun w => plateau_is h4 w
  clear hx hy hz h4
  by_cases e68 : y = 68
  · subst e68
    have c1 : ∀ w, Calls Try.prog 14 #[.int .i64 69] w fun e w' => e = .returned (.int .i64 68) ∧ Below w.heap.size w w' := c1
    clear h2 h3
    by_cases t2 : 68 < b <;> by_cases t3 : z < 68
    all_goals
      go_enter Try.func10, Try.ntmps10
      go_wp2_with (first | (go_at_call 11; (with_reducible refine (awake_any _).mono ?_); rintro e w1 ⟨rfl, hb1⟩) | (go_at_call 14; (with_reducible refine (ca _).mono ?_); rintro e w2 ⟨rfl, hb2⟩) | (go_at_call 14; (with_reducible refine (cb _).mono ?_); rintro e w3 ⟨rfl, hb3⟩) | (go_at_call 14; (with_reducible refine (cy _).mono ?_); rintro e w4 ⟨rfl, hb4⟩) | (go_at_call 14; (with_reducible refine (c1 _).mono ?_); rintro e w5 ⟨rfl, hb5⟩))
      go_ret
      have H2 := hb1.trans (hb2.mono hb1.size)
      have H3 := H2.trans (hb3.mono H2.size)
      have H4 := H3.trans (hb4.mono H3.size)
      exact ⟨rfl, H4.trans (hb5.mono H4.size)⟩
  · have t2 : y < b := by omega
    have t3 : z < y := by omega
    clear h2 h3
    go_enter Try.func10, Try.ntmps10
    go_wp2_with (first | (go_at_call 11; (with_reducible refine (awake_any _).mono ?_); rintro e w1 ⟨rfl, hb1⟩) | (go_at_call 14; (with_reducible refine (ca _).mono ?_); rintro e w2 ⟨rfl, hb2⟩) | (go_at_call 14; (with_reducible refine (cb _).mono ?_); rintro e w3 ⟨rfl, hb3⟩) | (go_at_call 14; (with_reducible refine (cy _).mono ?_); rintro e w4 ⟨rfl, hb4⟩) | (go_at_call 14; (with_reducible refine (c1 _).mono ?_); rintro e w5 ⟨rfl, hb5⟩))
    go_ret
    have H2 := hb1.trans (hb2.mono hb1.size)
    have H3 := H2.trans (hb3.mono H2.size)
    have H4 := H3.trans (hb4.mono H3.size)
    exact ⟨rfl, H4.trans (hb5.mono H4.size)⟩
set_option maxHeartbeats 4000000 in
theorem plat_gt (a b : Int) (w : World) (h : b < a) : Calls Try.prog 10 #[.int .i64 a, .int .i64 b] w fun e w' => e = .returned (.bool true) ∧ Below w.heap.size w w' := by
  obtain ⟨h1, h2, h3, h4⟩ := plat_pure b a (by omega)
  have hr := pl_range a
  obtain ⟨x, hx⟩ : ∃ x, pl b = x := ⟨_, rfl⟩
  obtain ⟨y, hy⟩ : ∃ y, pl a = y := ⟨_, rfl⟩
  rw [hx, hy] at h1
  rw [hy] at h2 h3 h4 hr
  obtain ⟨z, hz⟩ : ∃ z, pl y = z := ⟨_, rfl⟩
  rw [hz] at h3
  have ca := fun w => plateau_is hx w
  have cb := fun w => plateau_is hy w
  have cy := fun w => plateau_is hz w
  have c1 := fun w => plateau_is h4 w
  clear hx hy hz h4
  by_cases e68 : y = 68
  · subst e68
    have c1 : ∀ w, Calls Try.prog 14 #[.int .i64 69] w fun e w' => e = .returned (.int .i64 68) ∧ Below w.heap.size w w' := c1
    clear h2 h3
    by_cases t2 : 68 < a <;> by_cases t3 : z < 68
    all_goals
      go_enter Try.func10, Try.ntmps10
      go_wp2_with (first | (go_at_call 11; (with_reducible refine (awake_any _).mono ?_); rintro e w1 ⟨rfl, hb1⟩) | (go_at_call 14; (with_reducible refine (ca _).mono ?_); rintro e w2 ⟨rfl, hb2⟩) | (go_at_call 14; (with_reducible refine (cb _).mono ?_); rintro e w3 ⟨rfl, hb3⟩) | (go_at_call 14; (with_reducible refine (cy _).mono ?_); rintro e w4 ⟨rfl, hb4⟩) | (go_at_call 14; (with_reducible refine (c1 _).mono ?_); rintro e w5 ⟨rfl, hb5⟩))
      go_ret
      have H2 := hb1.trans (hb2.mono hb1.size)
      have H3 := H2.trans (hb3.mono H2.size)
      have H4 := H3.trans (hb4.mono H3.size)
      exact ⟨rfl, H4.trans (hb5.mono H4.size)⟩
  · have t2 : y < a := by omega
    have t3 : z < y := by omega
    clear h2 h3
    go_enter Try.func10, Try.ntmps10
    go_wp2_with (first | (go_at_call 11; (with_reducible refine (awake_any _).mono ?_); rintro e w1 ⟨rfl, hb1⟩) | (go_at_call 14; (with_reducible refine (ca _).mono ?_); rintro e w2 ⟨rfl, hb2⟩) | (go_at_call 14; (with_reducible refine (cb _).mono ?_); rintro e w3 ⟨rfl, hb3⟩) | (go_at_call 14; (with_reducible refine (cy _).mono ?_); rintro e w4 ⟨rfl, hb4⟩) | (go_at_call 14; (with_reducible refine (c1 _).mono ?_); rintro e w5 ⟨rfl, hb5⟩))
    go_ret
    have H2 := hb1.trans (hb2.mono hb1.size)
    have H3 := H2.trans (hb3.mono H2.size)
    have H4 := H3.trans (hb4.mono H3.size)
    exact ⟨rfl, H4.trans (hb5.mono H4.size)⟩
theorem plat_walk (a b : Int) (w : World) (_w0 : (Lit.int .i64 a).wf = true) (_w1 : (Lit.int .i64 b).wf = true) : Calls Try.prog 10 #[.int .i64 a, .int .i64 b] w fun e w' => e = .returned (.bool true) ∧ Below w.heap.size w w' := by
  by_cases h : a ≤ b
  · exact plat_le a b w h
  · exact plat_gt a b w (by omega)
end Go.Proofs.Ytcppckpkiloilaa
