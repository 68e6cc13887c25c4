/-
  The walk of the law TcpsmKnown: it returns true, and what was there stays. No condition.
-/
import Derived.Test.YtgjgbcakhmphlaaKnownT
namespace Go.Proofs.Ytgjgbcakhmphlaa
open Go.RowKit Go.Maps Go.WideMaps
set_option linter.unusedSimpArgs false

theorem K_keep {w wx w1 : World} {b o0 o1 o2 o3 o4 o5 : Nat} {v0 v1 v2 v3 v4 v5 : Value} (hb : b < w.heap.size) (hb1 : Below wx.heap.size wx w1)
    (h : wx.cell? ⟨b, o0, none⟩ = some v0 ∧ wx.cell? ⟨b, o1, none⟩ = some v1 ∧ wx.cell? ⟨b, o2, none⟩ = some v2 ∧ wx.cell? ⟨b, o3, none⟩ = some v3 ∧ wx.cell? ⟨b, o4, none⟩ = some v4 ∧ wx.cell? ⟨b, o5, none⟩ = some v5 ∧ Below w.heap.size w wx) :
    w1.cell? ⟨b, o0, none⟩ = some v0 ∧ w1.cell? ⟨b, o1, none⟩ = some v1 ∧ w1.cell? ⟨b, o2, none⟩ = some v2 ∧ w1.cell? ⟨b, o3, none⟩ = some v3 ∧ w1.cell? ⟨b, o4, none⟩ = some v4 ∧ w1.cell? ⟨b, o5, none⟩ = some v5 ∧ Below w.heap.size w w1 := by
  obtain ⟨h0, h1, h2, h3, h4, h5, hB⟩ := h
  have hl := Nat.lt_of_lt_of_le hb hB.size
  exact ⟨(hb1.cell hl).trans h0, (hb1.cell hl).trans h1, (hb1.cell hl).trans h2, (hb1.cell hl).trans h3, (hb1.cell hl).trans h4, (hb1.cell hl).trans h5, hB.trans (hb1.mono hB.size)⟩
set_option maxRecDepth 100000 in
set_option maxHeartbeats 8000000 in
theorem known_walk (w : World) : Calls Try.prog 8 #[] w fun e w' => e = .returned (.bool true) ∧ Below w.heap.size w w' := by
  have HC := Lib.hid (cell_rows w)
  have q2 := fun w => kind_is (known_kd 2 2 (by decide)) w
  have q18 := fun w => kind_is (known_kd 18 2 (by decide)) w
  have q6 := fun w => kind_is (known_kd 6 4 (by decide)) w
  have q3 := fun w => kind_is (known_kd 3 1 (by decide)) w
  have q16 := fun w => kind_is (known_kd 16 0 (by decide)) w
  have b1 : ∀ w, Calls Try.prog 15 #[.int .i64 4, .int .i64 2] w fun e w' => e = .returned (.bool true) ∧ w = w' := fun w => by have h := begins_t 4 2 w (by omega); rw [known_kd 2 2 (by decide)] at h; exact h
  have b2 : ∀ w, Calls Try.prog 15 #[.int .i64 6, .int .i64 18] w fun e w' => e = .returned (.bool true) ∧ w = w' := fun w => by have h := begins_t 6 18 w (by omega); rw [known_kd 18 2 (by decide)] at h; exact h
  have b3 : ∀ w, Calls Try.prog 15 #[.int .i64 6, .int .i64 6] w fun e w' => e = .returned (.bool false) ∧ w = w' := fun w => by have h := begins_t 6 6 w (by omega); rw [known_kd 6 4 (by decide)] at h; exact h
  have b4 := fun w => begins_f 5 2 w (by decide) (by decide)
  have hbz : w.heap.size < (WK w).heap.size := by simp
  have hBz : Below w.heap.size w (WK w) := (Below.refl _ _).alloc (Nat.le_refl _) _
  have hb := Lib.hid hbz
  have hB0 := Lib.hid hBz
  clear hbz hBz
  go_enter Try.func8, Try.ntmps8
  go_wp2_with (first | (go_at_call 13; (with_reducible refine (q2 _).mono ?_); rintro e w1 ⟨rfl, rfl⟩) | (go_at_call 13; (with_reducible refine (q18 _).mono ?_); rintro e w1 ⟨rfl, rfl⟩) | (go_at_call 13; (with_reducible refine (q6 _).mono ?_); rintro e w1 ⟨rfl, rfl⟩) | (go_at_call 13; (with_reducible refine (q3 _).mono ?_); rintro e w1 ⟨rfl, rfl⟩) | (go_at_call 13; (with_reducible refine (q16 _).mono ?_); rintro e w1 ⟨rfl, rfl⟩))
  go_loopw [3] (fun i wr => ∃ k : Nat, k ≤ 19 ∧ i = .int .i64 k ∧ Below (WK w).heap.size (WK w) wr) (fun i _ => 19 - (intOf i).toNat)
  case atStart => exact ⟨0, Nat.zero_le _, rfl, Below.refl _ _⟩
  case round =>
    obtain ⟨k, hk, rfl, hB⟩ := hrel
    have hB' := Lib.hid hB
    by_cases hlt : k < 19
    · obtain ⟨c0, c1, c2, c3, c4, c5⟩ := HC.out k hlt
      replace c0 := (hB.cell hb.out).trans c0
      replace c1 := (hB.cell hb.out).trans c1
      replace c2 := (hB.cell hb.out).trans c2
      replace c3 := (hB.cell hb.out).trans c3
      replace c4 := (hB.cell hb.out).trans c4
      replace c5 := (hB.cell hb.out).trans c5
      have n10 := next_row k hlt
      generalize kS k = xs at *
      generalize kF k = xf at *
      generalize kG k = xg at *
      generalize kN k = xn at *
      generalize kL k = xl at *
      generalize kO k = xo at *
      clear hB
      go_wp2
      go_region_held3 (fun w' => w'.cell? ⟨w.heap.size, k * 6, none⟩ = some (.int .i64 xs) ∧ w'.cell? ⟨w.heap.size, k * 6 + 1, none⟩ = some (.int .i64 xf) ∧ w'.cell? ⟨w.heap.size, k * 6 + 2, none⟩ = some (.int .i64 xg) ∧ w'.cell? ⟨w.heap.size, k * 6 + 3, none⟩ = some (.int .i64 xn) ∧ w'.cell? ⟨w.heap.size, k * 6 + 4, none⟩ = some (.int .i64 xl) ∧ w'.cell? ⟨w.heap.size, k * 6 + 5, none⟩ = some (.bool xo) ∧ Below (WK w).heap.size (WK w) w') (first | exact ⟨c0, c1, c2, c3, c4, c5, hB'.out.drew⟩ | exact K_keep hb.out hb1 ‹_›)
        (first | (go_at_call 10; (with_reducible refine (n10 _).mono ?_); rintro e w1 ⟨rfl, hb1⟩))
      have hS := ‹w1.cell? ⟨w.heap.size, k * 6, none⟩ = some (.int .i64 xs) ∧ w1.cell? ⟨w.heap.size, k * 6 + 1, none⟩ = some (.int .i64 xf) ∧ w1.cell? ⟨w.heap.size, k * 6 + 2, none⟩ = some (.int .i64 xg) ∧ w1.cell? ⟨w.heap.size, k * 6 + 3, none⟩ = some (.int .i64 xn) ∧ w1.cell? ⟨w.heap.size, k * 6 + 4, none⟩ = some (.int .i64 xl) ∧ w1.cell? ⟨w.heap.size, k * 6 + 5, none⟩ = some (.bool xo) ∧ Below (WK w).heap.size (WK w) w1›
      obtain ⟨-, -, -, d3, d4, d5, dB⟩ := hS
      have dB' := Lib.hid dB
      clear dB c0 c1 c2 c3 c4 c5 hb1
      go_wp2
      go_roundw
      case rel => exact ⟨k + 1, by omega, by go_num, dB'.out⟩
      case measure => simp [intOf]; omega
    · have hkn : k = 19 := by omega
      subst hkn
      clear hB
      go_wp2_with (first | (go_at_call 15; (with_reducible refine (b1 _).mono ?_); rintro e w2 ⟨rfl, rfl⟩) | (go_at_call 15; (with_reducible refine (b2 _).mono ?_); rintro e w2 ⟨rfl, rfl⟩) | (go_at_call 15; (with_reducible refine (b3 _).mono ?_); rintro e w2 ⟨rfl, rfl⟩) | (go_at_call 15; (with_reducible refine (b4 _).mono ?_); rintro e w2 ⟨rfl, rfl⟩) | (go_at_call 9; (with_reducible refine (wakes_any _).mono ?_); rintro e w2 ⟨rfl, hb2⟩))
      go_ret
      have HB := hB0.out.trans (hB'.out.mono hB0.out.size)
      exact ⟨rfl, HB.trans (hb2.mono HB.size)⟩
end Go.Proofs.Ytgjgbcakhmphlaa
