/-
  The reference's Kind and Next answer by kd and N, too: contracts. Conditions stand in each statement.
-/
import Derived.Test.YtgjgbcakhmphlaaE
import Derived.Deep.RegionHeld3
namespace Go.Proofs.Ytgjgbcakhmphlaa
open Go.RowKit Go.Maps Go.WideMaps

theorem and_bit (g : Int) (i : Nat) (hi : i < 60) : bits .and .i64 g ((2 ^ i : Nat) : Int) = ((((g % 18446744073709551616).toNat / 2 ^ i % 2 * 2 ^ i : Nat)) : Int) := by
  have h1 : (BitVec.ofInt 64 g).toNat = (g % 18446744073709551616).toNat := by simp [BitVec.toNat_ofInt]
  have h2 : (2 : Nat) ^ i < 2 ^ 60 := Nat.pow_lt_pow_right (by decide) hi
  have h3 : (BitVec.ofInt 64 ((2 ^ i : Nat) : Int)).toNat = 2 ^ i := by
    rw [BitVec.ofInt_natCast, BitVec.toNat_ofNat]
    exact Nat.mod_eq_of_lt (by omega)
  show IntKind.i64.wrap (((BitVec.ofInt 64 g) &&& (BitVec.ofInt 64 ((2 ^ i : Nat) : Int))).toNat : Int) = _
  rw [BitVec.toNat_and, h1, h3, nat_bit, IntKind.wrap_i64]
  generalize (g % 18446744073709551616).toNat / 2 ^ i = q
  have h4 : q % 2 * 2 ^ i ≤ 2 ^ i := by
    have : q % 2 = 0 ∨ q % 2 = 1 := by omega
    rcases this with h | h <;> simp [h]
  generalize 2 ^ i = p at *
  generalize q % 2 * p = r at *
  omega
theorem and4 (g : Int) : bits .and .i64 g 4 = g / 4 % 2 * 4 := by rw [show (4 : Int) = ((2 ^ 2 : Nat) : Int) from rfl, and_bit g 2 (by omega)]; omega
theorem and2 (g : Int) : bits .and .i64 g 2 = g / 2 % 2 * 2 := by rw [show (2 : Int) = ((2 ^ 1 : Nat) : Int) from rfl, and_bit g 1 (by omega)]; omega
theorem and1 (g : Int) : bits .and .i64 g 1 = g % 2 := by rw [show (1 : Int) = ((2 ^ 0 : Nat) : Int) from rfl, and_bit g 0 (by omega)]; omega
theorem kd_eq (g : Int) : kd g = if g / 4 % 2 = 1 then 4 else if g % 2 = 1 then 1 else if g / 2 % 2 = 1 then 2 else 0 := by
  unfold kd
  rw [and4, and2, and1]
  by_cases h4 : g / 4 % 2 = 1
  · rw [if_pos h4, if_pos (by rw [h4]; rfl)]
  · have e4 : g / 4 % 2 = 0 := by omega
    rw [if_neg h4, if_neg (by rw [e4]; decide)]
    by_cases h1 : g % 2 = 1
    · rw [if_pos h1, if_pos (by rw [h1]; rfl)]
    · have e1 : g % 2 = 0 := by omega
      rw [if_neg h1, if_neg (by rw [e1]; decide)]
      by_cases h2 : g / 2 % 2 = 1
      · rw [if_pos h2, if_pos (by rw [h2]; rfl)]
      · have e2 : g / 2 % 2 = 0 := by omega
        rw [if_neg h2, if_neg (by rw [e2]; decide)]
theorem ret_i {a b : Int} (h : a = b) : Ending.returned (.int .i64 a) = Ending.returned (.int .i64 b) := by rw [h]

set_option maxHeartbeats 400000 in
theorem rkind_any (g : Int) (w : World) :
    Calls Try.prog 14 #[.int .i64 g] w fun e w' => e = .returned (.int .i64 (kd g)) ∧ w = w' := by
  go_enter Try.func14, Try.ntmps14
  go_wp2
  · go_ret
    refine ⟨ret_i ?_, rfl⟩
    have h : (bits BinOp.and IntKind.i64 (g / 4) 1 == 1) = true := by assumption
    rw [and1, beq_iff_eq] at h
    rw [kd_eq, if_pos h]
  · go_ret
    refine ⟨ret_i ?_, rfl⟩
    have h : (bits BinOp.and IntKind.i64 (g / 4) 1 == 1) = false := by assumption
    have h2 : (bits BinOp.and IntKind.i64 g 1 == 1) = true := by assumption
    rw [and1, beq_eq_false_iff_ne] at h
    rw [and1, beq_iff_eq] at h2
    rw [kd_eq, if_neg h, if_pos h2]
  · go_ret
    refine ⟨ret_i ?_, rfl⟩
    have h : (bits BinOp.and IntKind.i64 (g / 4) 1 == 1) = false := by assumption
    have h2 : (bits BinOp.and IntKind.i64 g 1 == 1) = false := by assumption
    have h3 : (bits BinOp.and IntKind.i64 (g / 2) 1 == 1) = true := by assumption
    rw [and1, beq_eq_false_iff_ne] at h h2
    rw [and1, beq_iff_eq] at h3
    rw [kd_eq, if_neg h, if_neg h2, if_pos h3]
  · go_ret
    refine ⟨ret_i ?_, rfl⟩
    have h : (bits BinOp.and IntKind.i64 (g / 4) 1 == 1) = false := by assumption
    have h2 : (bits BinOp.and IntKind.i64 g 1 == 1) = false := by assumption
    have h3 : (bits BinOp.and IntKind.i64 (g / 2) 1 == 1) = false := by assumption
    rw [and1, beq_eq_false_iff_ne] at h h2 h3
    rw [kd_eq, if_neg h, if_neg h2, if_neg h3]

set_option maxHeartbeats 400000 in
theorem rnext_no (s f g : Int) (w : World) (h : s < 0 ∨ 7 < s ∨ (f ≠ 4 ∧ f ≠ 6)) :
    Calls Try.prog 12 #[.int .i64 s, .int .i64 f, .int .i64 g] w fun e w' => e = .returned (.tuple #[.int .i64 0, .int .i64 0, .bool false]) ∧ w = w' := by
  by_cases h0 : s < 0
  · clear h
    go_enter Try.func12, Try.ntmps12
    go_wp2
    go_ret3
    exact ⟨rfl, rfl⟩
  · by_cases h7 : 7 < s
    · clear h
      go_enter Try.func12, Try.ntmps12
      go_wp2
      go_ret3
      exact ⟨rfl, rfl⟩
    · have h4 : (f != 4) = true := by simp; omega
      have h6 : (f != 6) = true := by simp; omega
      clear h
      go_enter Try.func12, Try.ntmps12
      go_wp2
      go_ret3
      exact ⟨rfl, rfl⟩

set_option maxHeartbeats 4000000 in
theorem rnext_ok (s f g : Int) (w : World) (h0 : 0 ≤ s) (h7 : s ≤ 7) (hf : f = 4 ∨ f = 6) :
    Calls Try.prog 12 #[.int .i64 s, .int .i64 f, .int .i64 g] w fun e w' => e = .returned (.tuple #[.int .i64 (N s f (kd g)).1, .int .i64 (N s f (kd g)).2, .bool true]) ∧ w = w' := by
  have hk := kd_four g
  have hs : s = 0 ∨ s = 1 ∨ s = 2 ∨ s = 3 ∨ s = 4 ∨ s = 5 ∨ s = 6 ∨ s = 7 := by omega
  obtain ⟨k, hkd⟩ : ∃ k, kd g = k := ⟨_, rfl⟩
  rw [hkd] at hk ⊢
  have hrk : ∀ w, Calls Try.prog 14 #[.int .i64 g] w fun e w' => e = .returned (.int .i64 k) ∧ w = w' := fun w => by rw [← hkd]; exact rkind_any g w
  clear hkd h0 h7
  rcases hs with rfl | rfl | rfl | rfl | rfl | rfl | rfl | rfl <;> rcases hf with rfl | rfl <;> rcases hk with rfl | rfl | rfl | rfl
  all_goals
    go_enter Try.func12, Try.ntmps12
    go_wp2_with (go_at_call 14; refine (hrk _).mono ?_; rintro e w' ⟨rfl, rfl⟩)
    go_ret3
    exact ⟨rfl, rfl⟩
end Go.Proofs.Ytgjgbcakhmphlaa
