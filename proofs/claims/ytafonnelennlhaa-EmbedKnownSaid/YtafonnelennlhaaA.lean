/-
  Contract of embed.Right: it answers whether a prefix may be (RightP). Conditions stand in each statement.
-/
import Derived.Test.YtafonnelennlhaaProg
import Derived.WalkKit
import Derived.WalkSpells
import Derived.WalkLawsBesides
import Derived.KernelRfl
import Derived.LoopN
import Derived.Lib.Hide
import Derived.Handy
namespace Go.Proofs.Ytafonnelennlhaa
open Go.RowKit

/-- An IPv6 address, an IPv4 address, a prefix, by their bytes. -/
abbrev a16 (P : Nat → Int) : Array Value := #[.int .u8 (P 0), .int .u8 (P 1), .int .u8 (P 2), .int .u8 (P 3), .int .u8 (P 4), .int .u8 (P 5), .int .u8 (P 6), .int .u8 (P 7), .int .u8 (P 8), .int .u8 (P 9), .int .u8 (P 10), .int .u8 (P 11), .int .u8 (P 12), .int .u8 (P 13), .int .u8 (P 14), .int .u8 (P 15)]
abbrev a4 (A : Nat → Int) : Array Value := #[.int .u8 (A 0), .int .u8 (A 1), .int .u8 (A 2), .int .u8 (A 3)]
abbrev net (P : Nat → Int) (n : Int) : Value := .agg #[.int .u8 (P 0), .int .u8 (P 1), .int .u8 (P 2), .int .u8 (P 3), .int .u8 (P 4), .int .u8 (P 5), .int .u8 (P 6), .int .u8 (P 7), .int .u8 (P 8), .int .u8 (P 9), .int .u8 (P 10), .int .u8 (P 11), .int .u8 (P 12), .int .u8 (P 13), .int .u8 (P 14), .int .u8 (P 15), .int .i64 n]
def LenOk (n : Int) : Prop := n = 32 ∨ n = 40 ∨ n = 48 ∨ n = 56 ∨ n = 64 ∨ n = 96
/-- The bits behind the length are noughts, and byte 8 is: of the first k bytes, of all. -/
def OkTo (P : Nat → Int) (n : Int) (k : Nat) : Prop := ∀ j : Nat, j < k → (n / 8 ≤ (j : Int) ∨ j = 8) → P j = 0
abbrev TailOk (P : Nat → Int) (n : Int) : Prop := OkTo P n 16
def RightP (P : Nat → Int) (n : Int) : Prop := LenOk n ∧ TailOk P n
theorem OkTo.step {P : Nat → Int} {n : Int} {k : Nat} (h : OkTo P n k) (hk : (n / 8 ≤ (k : Int) ∨ k = 8) → P k = 0) : OkTo P n (k + 1) := fun j hj hc => by
  by_cases e : j = k
  · subst e; exact hk hc
  · exact h j (by omega) hc

theorem idx_0 (P : Nat → Int) (w : World) : (Instr.index 23 (.agg (a16 P)) (.int .i64 0)).run Try.prog w = .ok (.int .u8 (P 0)) w := by kernel_rfl
theorem idx_1 (P : Nat → Int) (w : World) : (Instr.index 23 (.agg (a16 P)) (.int .i64 1)).run Try.prog w = .ok (.int .u8 (P 1)) w := by kernel_rfl
theorem idx_2 (P : Nat → Int) (w : World) : (Instr.index 23 (.agg (a16 P)) (.int .i64 2)).run Try.prog w = .ok (.int .u8 (P 2)) w := by kernel_rfl
theorem idx_3 (P : Nat → Int) (w : World) : (Instr.index 23 (.agg (a16 P)) (.int .i64 3)).run Try.prog w = .ok (.int .u8 (P 3)) w := by kernel_rfl
theorem idx_4 (P : Nat → Int) (w : World) : (Instr.index 23 (.agg (a16 P)) (.int .i64 4)).run Try.prog w = .ok (.int .u8 (P 4)) w := by kernel_rfl
theorem idx_5 (P : Nat → Int) (w : World) : (Instr.index 23 (.agg (a16 P)) (.int .i64 5)).run Try.prog w = .ok (.int .u8 (P 5)) w := by kernel_rfl
theorem idx_6 (P : Nat → Int) (w : World) : (Instr.index 23 (.agg (a16 P)) (.int .i64 6)).run Try.prog w = .ok (.int .u8 (P 6)) w := by kernel_rfl
theorem idx_7 (P : Nat → Int) (w : World) : (Instr.index 23 (.agg (a16 P)) (.int .i64 7)).run Try.prog w = .ok (.int .u8 (P 7)) w := by kernel_rfl
theorem idx_8 (P : Nat → Int) (w : World) : (Instr.index 23 (.agg (a16 P)) (.int .i64 8)).run Try.prog w = .ok (.int .u8 (P 8)) w := by kernel_rfl
theorem idx_9 (P : Nat → Int) (w : World) : (Instr.index 23 (.agg (a16 P)) (.int .i64 9)).run Try.prog w = .ok (.int .u8 (P 9)) w := by kernel_rfl
theorem idx_10 (P : Nat → Int) (w : World) : (Instr.index 23 (.agg (a16 P)) (.int .i64 10)).run Try.prog w = .ok (.int .u8 (P 10)) w := by kernel_rfl
theorem idx_11 (P : Nat → Int) (w : World) : (Instr.index 23 (.agg (a16 P)) (.int .i64 11)).run Try.prog w = .ok (.int .u8 (P 11)) w := by kernel_rfl
theorem idx_12 (P : Nat → Int) (w : World) : (Instr.index 23 (.agg (a16 P)) (.int .i64 12)).run Try.prog w = .ok (.int .u8 (P 12)) w := by kernel_rfl
theorem idx_13 (P : Nat → Int) (w : World) : (Instr.index 23 (.agg (a16 P)) (.int .i64 13)).run Try.prog w = .ok (.int .u8 (P 13)) w := by kernel_rfl
theorem idx_14 (P : Nat → Int) (w : World) : (Instr.index 23 (.agg (a16 P)) (.int .i64 14)).run Try.prog w = .ok (.int .u8 (P 14)) w := by kernel_rfl
theorem idx_15 (P : Nat → Int) (w : World) : (Instr.index 23 (.agg (a16 P)) (.int .i64 15)).run Try.prog w = .ok (.int .u8 (P 15)) w := by kernel_rfl
theorem idx16 (P : Nat → Int) (w : World) (k : Nat) (hk : k < 16) : (Instr.index 23 (.agg (a16 P)) (.int .i64 k)).run Try.prog w = .ok (.int .u8 (P k)) w := by
  match k, hk with
  | 0, _ => exact idx_0 P w
  | 1, _ => exact idx_1 P w
  | 2, _ => exact idx_2 P w
  | 3, _ => exact idx_3 P w
  | 4, _ => exact idx_4 P w
  | 5, _ => exact idx_5 P w
  | 6, _ => exact idx_6 P w
  | 7, _ => exact idx_7 P w
  | 8, _ => exact idx_8 P w
  | 9, _ => exact idx_9 P w
  | 10, _ => exact idx_10 P w
  | 11, _ => exact idx_11 P w
  | 12, _ => exact idx_12 P w
  | 13, _ => exact idx_13 P w
  | 14, _ => exact idx_14 P w
  | 15, _ => exact idx_15 P w
  | k + 16, h => exact absurd h (by omega)

set_option maxHeartbeats 1000000 in
theorem right_len (P : Nat → Int) (n : Int) (w : World) (h : ¬ LenOk n) : Calls Try.prog 15 #[net P n] w fun e w' => e = .returned (.bool false) ∧ Below w.heap.size w w' := by
  unfold LenOk at h
  have e1 : (n == 32) = false := by simp; omega
  have e2 : (n == 40) = false := by simp; omega
  have e3 : (n == 48) = false := by simp; omega
  have e4 : (n == 56) = false := by simp; omega
  have e5 : (n == 64) = false := by simp; omega
  have e6 : (n == 96) = false := by simp; omega
  clear h
  go_enter Try.func15, Try.ntmps15
  go_wp2
  go_ret
  exact ⟨rfl, (Below.refl _ _).alloc (Nat.le_refl _) _⟩

set_option maxHeartbeats 4000000 in
theorem right_32 (P : Nat → Int) (w : World) (r : Bool) (hr : r = true ↔ TailOk P 32) : Calls Try.prog 15 #[net P 32] w fun e w' => e = .returned (.bool r) ∧ Below w.heap.size w w' := by
  have hi := Lib.hid (idx16 P)
  have hr := Lib.hid hr
  go_enter Try.func15, Try.ntmps15
  go_wp2
  go_loop [3, 4, 16] (fun i b j => ∃ k : Nat, k ≤ 16 ∧ j = .int .i64 k ∧ OkTo P 32 k) (fun _ _ j => 16 - (intOf j).toNat)
  case atStart => exact ⟨0, Nat.zero_le _, rfl, fun j h => absurd h (by omega)⟩
  case round =>
    obtain ⟨k, hk, rfl, hok⟩ := hrel
    by_cases hlt : k < 16
    · have ik := fun w => hi.out w k hlt
      by_cases h0 : P k = 0
      · have hn := hok.step (fun _ => h0)
        have e0 : (P k != 0) = false := by simp [h0]
        clear h0 hok
        go_wp2
        go_round
        case rel => exact ⟨k + 1, by omega, by go_num, hn⟩
        case measure => simp [intOf]; omega
      · have e0 : (P k != 0) = true := by simp [h0]
        by_cases hc : ((4 : Int) ≤ (k : Int) ∨ k = 8)
        · have hf : r = false := by
            cases r with
            | false => rfl
            | true => exact absurd (hr.out.1 rfl k hlt hc) h0
          clear h0 hok
          subst hf
          by_cases h1 : (4 : Int) ≤ (k : Int)
          · clear hc
            go_wp2
            go_ret
            exact ⟨rfl, (Below.refl _ _).alloc (Nat.le_refl _) _⟩
          · have h8 : k = 8 := by omega
            exact absurd h8 (by omega)
        · have hn := hok.step (fun h => absurd h hc)
          have t1 : (k : Int) < 4 := by omega
          have e8 : ((k : Int) == 8) = false := by simp; omega
          clear h0 hok hc
          go_wp2
          go_round
          case rel => exact ⟨k + 1, by omega, by go_num, hn⟩
          case measure => simp [intOf]; omega
    · obtain rfl : k = 16 := by omega
      have ht : r = true := hr.out.2 hok
      clear hok
      subst ht
      go_wp2
      go_ret
      exact ⟨rfl, (Below.refl _ _).alloc (Nat.le_refl _) _⟩
set_option maxHeartbeats 4000000 in
theorem right_40 (P : Nat → Int) (w : World) (r : Bool) (hr : r = true ↔ TailOk P 40) : Calls Try.prog 15 #[net P 40] w fun e w' => e = .returned (.bool r) ∧ Below w.heap.size w w' := by
  have hi := Lib.hid (idx16 P)
  have hr := Lib.hid hr
  go_enter Try.func15, Try.ntmps15
  go_wp2
  go_loop [3, 4, 16] (fun i b j => ∃ k : Nat, k ≤ 16 ∧ j = .int .i64 k ∧ OkTo P 40 k) (fun _ _ j => 16 - (intOf j).toNat)
  case atStart => exact ⟨0, Nat.zero_le _, rfl, fun j h => absurd h (by omega)⟩
  case round =>
    obtain ⟨k, hk, rfl, hok⟩ := hrel
    by_cases hlt : k < 16
    · have ik := fun w => hi.out w k hlt
      by_cases h0 : P k = 0
      · have hn := hok.step (fun _ => h0)
        have e0 : (P k != 0) = false := by simp [h0]
        clear h0 hok
        go_wp2
        go_round
        case rel => exact ⟨k + 1, by omega, by go_num, hn⟩
        case measure => simp [intOf]; omega
      · have e0 : (P k != 0) = true := by simp [h0]
        by_cases hc : ((5 : Int) ≤ (k : Int) ∨ k = 8)
        · have hf : r = false := by
            cases r with
            | false => rfl
            | true => exact absurd (hr.out.1 rfl k hlt hc) h0
          clear h0 hok
          subst hf
          by_cases h1 : (5 : Int) ≤ (k : Int)
          · clear hc
            go_wp2
            go_ret
            exact ⟨rfl, (Below.refl _ _).alloc (Nat.le_refl _) _⟩
          · have h8 : k = 8 := by omega
            exact absurd h8 (by omega)
        · have hn := hok.step (fun h => absurd h hc)
          have t1 : (k : Int) < 5 := by omega
          have e8 : ((k : Int) == 8) = false := by simp; omega
          clear h0 hok hc
          go_wp2
          go_round
          case rel => exact ⟨k + 1, by omega, by go_num, hn⟩
          case measure => simp [intOf]; omega
    · obtain rfl : k = 16 := by omega
      have ht : r = true := hr.out.2 hok
      clear hok
      subst ht
      go_wp2
      go_ret
      exact ⟨rfl, (Below.refl _ _).alloc (Nat.le_refl _) _⟩
set_option maxHeartbeats 4000000 in
theorem right_48 (P : Nat → Int) (w : World) (r : Bool) (hr : r = true ↔ TailOk P 48) : Calls Try.prog 15 #[net P 48] w fun e w' => e = .returned (.bool r) ∧ Below w.heap.size w w' := by
  have hi := Lib.hid (idx16 P)
  have hr := Lib.hid hr
  go_enter Try.func15, Try.ntmps15
  go_wp2
  go_loop [3, 4, 16] (fun i b j => ∃ k : Nat, k ≤ 16 ∧ j = .int .i64 k ∧ OkTo P 48 k) (fun _ _ j => 16 - (intOf j).toNat)
  case atStart => exact ⟨0, Nat.zero_le _, rfl, fun j h => absurd h (by omega)⟩
  case round =>
    obtain ⟨k, hk, rfl, hok⟩ := hrel
    by_cases hlt : k < 16
    · have ik := fun w => hi.out w k hlt
      by_cases h0 : P k = 0
      · have hn := hok.step (fun _ => h0)
        have e0 : (P k != 0) = false := by simp [h0]
        clear h0 hok
        go_wp2
        go_round
        case rel => exact ⟨k + 1, by omega, by go_num, hn⟩
        case measure => simp [intOf]; omega
      · have e0 : (P k != 0) = true := by simp [h0]
        by_cases hc : ((6 : Int) ≤ (k : Int) ∨ k = 8)
        · have hf : r = false := by
            cases r with
            | false => rfl
            | true => exact absurd (hr.out.1 rfl k hlt hc) h0
          clear h0 hok
          subst hf
          by_cases h1 : (6 : Int) ≤ (k : Int)
          · clear hc
            go_wp2
            go_ret
            exact ⟨rfl, (Below.refl _ _).alloc (Nat.le_refl _) _⟩
          · have h8 : k = 8 := by omega
            exact absurd h8 (by omega)
        · have hn := hok.step (fun h => absurd h hc)
          have t1 : (k : Int) < 6 := by omega
          have e8 : ((k : Int) == 8) = false := by simp; omega
          clear h0 hok hc
          go_wp2
          go_round
          case rel => exact ⟨k + 1, by omega, by go_num, hn⟩
          case measure => simp [intOf]; omega
    · obtain rfl : k = 16 := by omega
      have ht : r = true := hr.out.2 hok
      clear hok
      subst ht
      go_wp2
      go_ret
      exact ⟨rfl, (Below.refl _ _).alloc (Nat.le_refl _) _⟩
set_option maxHeartbeats 4000000 in
theorem right_56 (P : Nat → Int) (w : World) (r : Bool) (hr : r = true ↔ TailOk P 56) : Calls Try.prog 15 #[net P 56] w fun e w' => e = .returned (.bool r) ∧ Below w.heap.size w w' := by
  have hi := Lib.hid (idx16 P)
  have hr := Lib.hid hr
  go_enter Try.func15, Try.ntmps15
  go_wp2
  go_loop [3, 4, 16] (fun i b j => ∃ k : Nat, k ≤ 16 ∧ j = .int .i64 k ∧ OkTo P 56 k) (fun _ _ j => 16 - (intOf j).toNat)
  case atStart => exact ⟨0, Nat.zero_le _, rfl, fun j h => absurd h (by omega)⟩
  case round =>
    obtain ⟨k, hk, rfl, hok⟩ := hrel
    by_cases hlt : k < 16
    · have ik := fun w => hi.out w k hlt
      by_cases h0 : P k = 0
      · have hn := hok.step (fun _ => h0)
        have e0 : (P k != 0) = false := by simp [h0]
        clear h0 hok
        go_wp2
        go_round
        case rel => exact ⟨k + 1, by omega, by go_num, hn⟩
        case measure => simp [intOf]; omega
      · have e0 : (P k != 0) = true := by simp [h0]
        by_cases hc : ((7 : Int) ≤ (k : Int) ∨ k = 8)
        · have hf : r = false := by
            cases r with
            | false => rfl
            | true => exact absurd (hr.out.1 rfl k hlt hc) h0
          clear h0 hok
          subst hf
          by_cases h1 : (7 : Int) ≤ (k : Int)
          · clear hc
            go_wp2
            go_ret
            exact ⟨rfl, (Below.refl _ _).alloc (Nat.le_refl _) _⟩
          · have h8 : k = 8 := by omega
            exact absurd h8 (by omega)
        · have hn := hok.step (fun h => absurd h hc)
          have t1 : (k : Int) < 7 := by omega
          have e8 : ((k : Int) == 8) = false := by simp; omega
          clear h0 hok hc
          go_wp2
          go_round
          case rel => exact ⟨k + 1, by omega, by go_num, hn⟩
          case measure => simp [intOf]; omega
    · obtain rfl : k = 16 := by omega
      have ht : r = true := hr.out.2 hok
      clear hok
      subst ht
      go_wp2
      go_ret
      exact ⟨rfl, (Below.refl _ _).alloc (Nat.le_refl _) _⟩
set_option maxHeartbeats 4000000 in
theorem right_64 (P : Nat → Int) (w : World) (r : Bool) (hr : r = true ↔ TailOk P 64) : Calls Try.prog 15 #[net P 64] w fun e w' => e = .returned (.bool r) ∧ Below w.heap.size w w' := by
  have hi := Lib.hid (idx16 P)
  have hr := Lib.hid hr
  go_enter Try.func15, Try.ntmps15
  go_wp2
  go_loop [3, 4, 16] (fun i b j => ∃ k : Nat, k ≤ 16 ∧ j = .int .i64 k ∧ OkTo P 64 k) (fun _ _ j => 16 - (intOf j).toNat)
  case atStart => exact ⟨0, Nat.zero_le _, rfl, fun j h => absurd h (by omega)⟩
  case round =>
    obtain ⟨k, hk, rfl, hok⟩ := hrel
    by_cases hlt : k < 16
    · have ik := fun w => hi.out w k hlt
      by_cases h0 : P k = 0
      · have hn := hok.step (fun _ => h0)
        have e0 : (P k != 0) = false := by simp [h0]
        clear h0 hok
        go_wp2
        go_round
        case rel => exact ⟨k + 1, by omega, by go_num, hn⟩
        case measure => simp [intOf]; omega
      · have e0 : (P k != 0) = true := by simp [h0]
        by_cases hc : ((8 : Int) ≤ (k : Int) ∨ k = 8)
        · have hf : r = false := by
            cases r with
            | false => rfl
            | true => exact absurd (hr.out.1 rfl k hlt hc) h0
          clear h0 hok
          subst hf
          by_cases h1 : (8 : Int) ≤ (k : Int)
          · clear hc
            go_wp2
            go_ret
            exact ⟨rfl, (Below.refl _ _).alloc (Nat.le_refl _) _⟩
          · have h8 : k = 8 := by omega
            exact absurd h8 (by omega)
        · have hn := hok.step (fun h => absurd h hc)
          have t1 : (k : Int) < 8 := by omega
          have e8 : ((k : Int) == 8) = false := by simp; omega
          clear h0 hok hc
          go_wp2
          go_round
          case rel => exact ⟨k + 1, by omega, by go_num, hn⟩
          case measure => simp [intOf]; omega
    · obtain rfl : k = 16 := by omega
      have ht : r = true := hr.out.2 hok
      clear hok
      subst ht
      go_wp2
      go_ret
      exact ⟨rfl, (Below.refl _ _).alloc (Nat.le_refl _) _⟩
set_option maxHeartbeats 4000000 in
theorem right_96 (P : Nat → Int) (w : World) (r : Bool) (hr : r = true ↔ TailOk P 96) : Calls Try.prog 15 #[net P 96] w fun e w' => e = .returned (.bool r) ∧ Below w.heap.size w w' := by
  have hi := Lib.hid (idx16 P)
  have hr := Lib.hid hr
  go_enter Try.func15, Try.ntmps15
  go_wp2
  go_loop [3, 4, 16] (fun i b j => ∃ k : Nat, k ≤ 16 ∧ j = .int .i64 k ∧ OkTo P 96 k) (fun _ _ j => 16 - (intOf j).toNat)
  case atStart => exact ⟨0, Nat.zero_le _, rfl, fun j h => absurd h (by omega)⟩
  case round =>
    obtain ⟨k, hk, rfl, hok⟩ := hrel
    by_cases hlt : k < 16
    · have ik := fun w => hi.out w k hlt
      by_cases h0 : P k = 0
      · have hn := hok.step (fun _ => h0)
        have e0 : (P k != 0) = false := by simp [h0]
        clear h0 hok
        go_wp2
        go_round
        case rel => exact ⟨k + 1, by omega, by go_num, hn⟩
        case measure => simp [intOf]; omega
      · have e0 : (P k != 0) = true := by simp [h0]
        by_cases hc : ((12 : Int) ≤ (k : Int) ∨ k = 8)
        · have hf : r = false := by
            cases r with
            | false => rfl
            | true => exact absurd (hr.out.1 rfl k hlt hc) h0
          clear h0 hok
          subst hf
          by_cases h1 : (12 : Int) ≤ (k : Int)
          · clear hc
            go_wp2
            go_ret
            exact ⟨rfl, (Below.refl _ _).alloc (Nat.le_refl _) _⟩
          · have h8 : k = 8 := by omega
            have e8 : ((k : Int) == 8) = true := by simp; omega
            clear hc h8
            go_wp2
            go_ret
            exact ⟨rfl, (Below.refl _ _).alloc (Nat.le_refl _) _⟩
        · have hn := hok.step (fun h => absurd h hc)
          have t1 : (k : Int) < 12 := by omega
          have e8 : ((k : Int) == 8) = false := by simp; omega
          clear h0 hok hc
          go_wp2
          go_round
          case rel => exact ⟨k + 1, by omega, by go_num, hn⟩
          case measure => simp [intOf]; omega
    · obtain rfl : k = 16 := by omega
      have ht : r = true := hr.out.2 hok
      clear hok
      subst ht
      go_wp2
      go_ret
      exact ⟨rfl, (Below.refl _ _).alloc (Nat.le_refl _) _⟩
theorem right_t (P : Nat → Int) (n : Int) (w : World) (h : RightP P n) : Calls Try.prog 15 #[net P n] w fun e w' => e = .returned (.bool true) ∧ Below w.heap.size w w' := by
  obtain ⟨hl, ht⟩ := h
  unfold LenOk at hl
  rcases hl with rfl | rfl | rfl | rfl | rfl | rfl
  · exact right_32 P w true (by simp [ht])
  · exact right_40 P w true (by simp [ht])
  · exact right_48 P w true (by simp [ht])
  · exact right_56 P w true (by simp [ht])
  · exact right_64 P w true (by simp [ht])
  · exact right_96 P w true (by simp [ht])
theorem right_f (P : Nat → Int) (n : Int) (w : World) (h : ¬ RightP P n) : Calls Try.prog 15 #[net P n] w fun e w' => e = .returned (.bool false) ∧ Below w.heap.size w w' := by
  by_cases hl : LenOk n
  · have ht : ¬ TailOk P n := fun ht => h ⟨hl, ht⟩
    unfold LenOk at hl
    rcases hl with rfl | rfl | rfl | rfl | rfl | rfl
    · exact right_32 P w false (by simp [ht])
    · exact right_40 P w false (by simp [ht])
    · exact right_48 P w false (by simp [ht])
    · exact right_56 P w false (by simp [ht])
    · exact right_64 P w false (by simp [ht])
    · exact right_96 P w false (by simp [ht])
  · exact right_len P n w hl
end Go.Proofs.Ytafonnelennlhaa
