/-
  Contract of the reference's Right: it answers whether a prefix may be. Conditions stand in each statement.
-/
import Derived.Test.YtafonnelennlhaaN
namespace Go.Proofs.Ytafonnelennlhaa
open Go.RowKit
set_option linter.unusedSimpArgs false
set_option linter.unusedVariables false

abbrev netC (P : Nat → Int) (n : Int) : Array Value := #[.int .u8 (P 0), .int .u8 (P 1), .int .u8 (P 2), .int .u8 (P 3), .int .u8 (P 4), .int .u8 (P 5), .int .u8 (P 6), .int .u8 (P 7), .int .u8 (P 8), .int .u8 (P 9), .int .u8 (P 10), .int .u8 (P 11), .int .u8 (P 12), .int .u8 (P 13), .int .u8 (P 14), .int .u8 (P 15), .int .i64 n]
theorem netC_at (P : Nat → Int) (n : Int) : ∀ k, k < 16 → (netC P n)[k]? = some (.int .u8 (P k)) := by
  intro i hi
  match i, hi with
  | 0, _ => exact rfl | 1, _ => exact rfl | 2, _ => exact rfl | 3, _ => exact rfl | 4, _ => exact rfl | 5, _ => exact rfl | 6, _ => exact rfl | 7, _ => exact rfl
  | 8, _ => exact rfl | 9, _ => exact rfl | 10, _ => exact rfl | 11, _ => exact rfl | 12, _ => exact rfl | 13, _ => exact rfl | 14, _ => exact rfl | 15, _ => exact rfl | k + 16, h => exact absurd h (by omega)
theorem net_cell (P : Nat → Int) (n : Int) (w : World) (k : Nat) (hk : k < 16) : (w.alloc (.cells (netC P n) 26)).cell? ⟨w.heap.size, k, none⟩ = some (.int .u8 (P k)) :=
  (Blk.new w 26 (netC P n) rfl).cell (netC_at P n k hk)
set_option maxHeartbeats 4000000 in
theorem rright_len (P : Nat → Int) (n : Int) (w : World) (h : ¬ LenOk n) : Calls Try.prog 18 #[net P n] w fun e w' => e = .returned (.bool false) ∧ Below w.heap.size w w' := by
  unfold LenOk at h
  have e1 : (n != 32) = true := by simp; omega
  have e2 : (n != 40) = true := by simp; omega
  have e3 : (n != 48) = true := by simp; omega
  have e4 : (n != 56) = true := by simp; omega
  have e5 : (n != 64) = true := by simp; omega
  have e6 : (n != 96) = true := by simp; omega
  clear h
  go_enter Try.func18, Try.ntmps18
  go_wp2
  go_ret
  exact ⟨rfl, (Below.refl _ _).alloc (Nat.le_refl _) _⟩
set_option maxHeartbeats 4000000 in
theorem rright_32 (P : Nat → Int) (w : World) (r : Bool) (hr : r = true ↔ TailOk P 32) : Calls Try.prog 18 #[net P 32] w fun e w' => e = .returned (.bool r) ∧ Below w.heap.size w w' := by
  have hi := Lib.hid (net_cell P 32 w)
  have HR := Lib.hid hr
  clear hr
  by_cases h8 : P 8 = 0
  · have e8 : (P 8 != 0) = false := by simp [h8]
    have H8 := Lib.hid h8
    clear h8
    go_enter Try.func18, Try.ntmps18
    go_wp2
    go_loop [3] (fun j => ∃ k : Nat, 4 ≤ k ∧ k ≤ 16 ∧ j = .int .i64 k ∧ (∀ i, 4 ≤ i → i < k → P i = 0)) (fun j => 16 - (intOf j).toNat)
    case atStart => exact ⟨4, Nat.le_refl _, by omega, rfl, fun i h1 h2 => absurd h1 (by omega)⟩
    case round =>
      obtain ⟨k, hk0, hk, rfl, hok⟩ := hrel
      have HK := Lib.hid hok
      clear hok
      by_cases hlt : k < 16
      · have ik := hi.out k hlt
        by_cases h0 : P k = 0
        · have e0 : (P k != 0) = false := by simp [h0]
          have hn : Hid (∀ i, 4 ≤ i → i < k + 1 → P i = 0) := Lib.hid fun i h1 h2 => by
            by_cases e : i = k
            · rw [e]; exact h0
            · exact HK.out i h1 (by omega)
          clear h0
          go_wp2
          go_round
          case rel => exact ⟨k + 1, by omega, by omega, by go_num, hn.out⟩
          case measure => simp [intOf]; omega
        · have e0 : (P k != 0) = true := by simp [h0]
          have hf : r = false := by
            cases r with
            | false => rfl
            | true => exact absurd (HR.out.1 rfl k hlt (.inl (by omega))) h0
          clear h0
          subst hf
          go_wp2
          go_ret
          exact ⟨rfl, (Below.refl _ _).alloc (Nat.le_refl _) _⟩
      · obtain rfl : k = 16 := by omega
        have ht : r = true := HR.out.2 fun j hj h => by
          rcases h with h | h
          · exact HK.out j (by omega) hj
          · rw [h]; exact H8.out
        subst ht
        go_wp2
        go_ret
        exact ⟨rfl, (Below.refl _ _).alloc (Nat.le_refl _) _⟩
  · have e8 : (P 8 != 0) = true := by simp [h8]
    have hf : r = false := by
      cases r with
      | false => rfl
      | true => exact absurd (HR.out.1 rfl 8 (by omega) (.inr rfl)) h8
    subst hf
    clear h8 HR hi
    go_enter Try.func18, Try.ntmps18
    go_wp2
    all_goals (go_ret; exact ⟨rfl, (Below.refl _ _).alloc (Nat.le_refl _) _⟩)
set_option maxHeartbeats 4000000 in
theorem rright_40 (P : Nat → Int) (w : World) (r : Bool) (hr : r = true ↔ TailOk P 40) : Calls Try.prog 18 #[net P 40] w fun e w' => e = .returned (.bool r) ∧ Below w.heap.size w w' := by
  have hi := Lib.hid (net_cell P 40 w)
  have HR := Lib.hid hr
  clear hr
  by_cases h8 : P 8 = 0
  · have e8 : (P 8 != 0) = false := by simp [h8]
    have H8 := Lib.hid h8
    clear h8
    go_enter Try.func18, Try.ntmps18
    go_wp2
    go_loop [3] (fun j => ∃ k : Nat, 5 ≤ k ∧ k ≤ 16 ∧ j = .int .i64 k ∧ (∀ i, 5 ≤ i → i < k → P i = 0)) (fun j => 16 - (intOf j).toNat)
    case atStart => exact ⟨5, Nat.le_refl _, by omega, rfl, fun i h1 h2 => absurd h1 (by omega)⟩
    case round =>
      obtain ⟨k, hk0, hk, rfl, hok⟩ := hrel
      have HK := Lib.hid hok
      clear hok
      by_cases hlt : k < 16
      · have ik := hi.out k hlt
        by_cases h0 : P k = 0
        · have e0 : (P k != 0) = false := by simp [h0]
          have hn : Hid (∀ i, 5 ≤ i → i < k + 1 → P i = 0) := Lib.hid fun i h1 h2 => by
            by_cases e : i = k
            · rw [e]; exact h0
            · exact HK.out i h1 (by omega)
          clear h0
          go_wp2
          go_round
          case rel => exact ⟨k + 1, by omega, by omega, by go_num, hn.out⟩
          case measure => simp [intOf]; omega
        · have e0 : (P k != 0) = true := by simp [h0]
          have hf : r = false := by
            cases r with
            | false => rfl
            | true => exact absurd (HR.out.1 rfl k hlt (.inl (by omega))) h0
          clear h0
          subst hf
          go_wp2
          go_ret
          exact ⟨rfl, (Below.refl _ _).alloc (Nat.le_refl _) _⟩
      · obtain rfl : k = 16 := by omega
        have ht : r = true := HR.out.2 fun j hj h => by
          rcases h with h | h
          · exact HK.out j (by omega) hj
          · rw [h]; exact H8.out
        subst ht
        go_wp2
        go_ret
        exact ⟨rfl, (Below.refl _ _).alloc (Nat.le_refl _) _⟩
  · have e8 : (P 8 != 0) = true := by simp [h8]
    have hf : r = false := by
      cases r with
      | false => rfl
      | true => exact absurd (HR.out.1 rfl 8 (by omega) (.inr rfl)) h8
    subst hf
    clear h8 HR hi
    go_enter Try.func18, Try.ntmps18
    go_wp2
    all_goals (go_ret; exact ⟨rfl, (Below.refl _ _).alloc (Nat.le_refl _) _⟩)
set_option maxHeartbeats 4000000 in
theorem rright_48 (P : Nat → Int) (w : World) (r : Bool) (hr : r = true ↔ TailOk P 48) : Calls Try.prog 18 #[net P 48] w fun e w' => e = .returned (.bool r) ∧ Below w.heap.size w w' := by
  have hi := Lib.hid (net_cell P 48 w)
  have HR := Lib.hid hr
  clear hr
  by_cases h8 : P 8 = 0
  · have e8 : (P 8 != 0) = false := by simp [h8]
    have H8 := Lib.hid h8
    clear h8
    go_enter Try.func18, Try.ntmps18
    go_wp2
    go_loop [3] (fun j => ∃ k : Nat, 6 ≤ k ∧ k ≤ 16 ∧ j = .int .i64 k ∧ (∀ i, 6 ≤ i → i < k → P i = 0)) (fun j => 16 - (intOf j).toNat)
    case atStart => exact ⟨6, Nat.le_refl _, by omega, rfl, fun i h1 h2 => absurd h1 (by omega)⟩
    case round =>
      obtain ⟨k, hk0, hk, rfl, hok⟩ := hrel
      have HK := Lib.hid hok
      clear hok
      by_cases hlt : k < 16
      · have ik := hi.out k hlt
        by_cases h0 : P k = 0
        · have e0 : (P k != 0) = false := by simp [h0]
          have hn : Hid (∀ i, 6 ≤ i → i < k + 1 → P i = 0) := Lib.hid fun i h1 h2 => by
            by_cases e : i = k
            · rw [e]; exact h0
            · exact HK.out i h1 (by omega)
          clear h0
          go_wp2
          go_round
          case rel => exact ⟨k + 1, by omega, by omega, by go_num, hn.out⟩
          case measure => simp [intOf]; omega
        · have e0 : (P k != 0) = true := by simp [h0]
          have hf : r = false := by
            cases r with
            | false => rfl
            | true => exact absurd (HR.out.1 rfl k hlt (.inl (by omega))) h0
          clear h0
          subst hf
          go_wp2
          go_ret
          exact ⟨rfl, (Below.refl _ _).alloc (Nat.le_refl _) _⟩
      · obtain rfl : k = 16 := by omega
        have ht : r = true := HR.out.2 fun j hj h => by
          rcases h with h | h
          · exact HK.out j (by omega) hj
          · rw [h]; exact H8.out
        subst ht
        go_wp2
        go_ret
        exact ⟨rfl, (Below.refl _ _).alloc (Nat.le_refl _) _⟩
  · have e8 : (P 8 != 0) = true := by simp [h8]
    have hf : r = false := by
      cases r with
      | false => rfl
      | true => exact absurd (HR.out.1 rfl 8 (by omega) (.inr rfl)) h8
    subst hf
    clear h8 HR hi
    go_enter Try.func18, Try.ntmps18
    go_wp2
    all_goals (go_ret; exact ⟨rfl, (Below.refl _ _).alloc (Nat.le_refl _) _⟩)
set_option maxHeartbeats 4000000 in
theorem rright_56 (P : Nat → Int) (w : World) (r : Bool) (hr : r = true ↔ TailOk P 56) : Calls Try.prog 18 #[net P 56] w fun e w' => e = .returned (.bool r) ∧ Below w.heap.size w w' := by
  have hi := Lib.hid (net_cell P 56 w)
  have HR := Lib.hid hr
  clear hr
  by_cases h8 : P 8 = 0
  · have e8 : (P 8 != 0) = false := by simp [h8]
    have H8 := Lib.hid h8
    clear h8
    go_enter Try.func18, Try.ntmps18
    go_wp2
    go_loop [3] (fun j => ∃ k : Nat, 7 ≤ k ∧ k ≤ 16 ∧ j = .int .i64 k ∧ (∀ i, 7 ≤ i → i < k → P i = 0)) (fun j => 16 - (intOf j).toNat)
    case atStart => exact ⟨7, Nat.le_refl _, by omega, rfl, fun i h1 h2 => absurd h1 (by omega)⟩
    case round =>
      obtain ⟨k, hk0, hk, rfl, hok⟩ := hrel
      have HK := Lib.hid hok
      clear hok
      by_cases hlt : k < 16
      · have ik := hi.out k hlt
        by_cases h0 : P k = 0
        · have e0 : (P k != 0) = false := by simp [h0]
          have hn : Hid (∀ i, 7 ≤ i → i < k + 1 → P i = 0) := Lib.hid fun i h1 h2 => by
            by_cases e : i = k
            · rw [e]; exact h0
            · exact HK.out i h1 (by omega)
          clear h0
          go_wp2
          go_round
          case rel => exact ⟨k + 1, by omega, by omega, by go_num, hn.out⟩
          case measure => simp [intOf]; omega
        · have e0 : (P k != 0) = true := by simp [h0]
          have hf : r = false := by
            cases r with
            | false => rfl
            | true => exact absurd (HR.out.1 rfl k hlt (.inl (by omega))) h0
          clear h0
          subst hf
          go_wp2
          go_ret
          exact ⟨rfl, (Below.refl _ _).alloc (Nat.le_refl _) _⟩
      · obtain rfl : k = 16 := by omega
        have ht : r = true := HR.out.2 fun j hj h => by
          rcases h with h | h
          · exact HK.out j (by omega) hj
          · rw [h]; exact H8.out
        subst ht
        go_wp2
        go_ret
        exact ⟨rfl, (Below.refl _ _).alloc (Nat.le_refl _) _⟩
  · have e8 : (P 8 != 0) = true := by simp [h8]
    have hf : r = false := by
      cases r with
      | false => rfl
      | true => exact absurd (HR.out.1 rfl 8 (by omega) (.inr rfl)) h8
    subst hf
    clear h8 HR hi
    go_enter Try.func18, Try.ntmps18
    go_wp2
    all_goals (go_ret; exact ⟨rfl, (Below.refl _ _).alloc (Nat.le_refl _) _⟩)
set_option maxHeartbeats 4000000 in
theorem rright_64 (P : Nat → Int) (w : World) (r : Bool) (hr : r = true ↔ TailOk P 64) : Calls Try.prog 18 #[net P 64] w fun e w' => e = .returned (.bool r) ∧ Below w.heap.size w w' := by
  have hi := Lib.hid (net_cell P 64 w)
  have HR := Lib.hid hr
  clear hr
  by_cases h8 : P 8 = 0
  · have e8 : (P 8 != 0) = false := by simp [h8]
    have H8 := Lib.hid h8
    clear h8
    go_enter Try.func18, Try.ntmps18
    go_wp2
    go_loop [3] (fun j => ∃ k : Nat, 8 ≤ k ∧ k ≤ 16 ∧ j = .int .i64 k ∧ (∀ i, 8 ≤ i → i < k → P i = 0)) (fun j => 16 - (intOf j).toNat)
    case atStart => exact ⟨8, Nat.le_refl _, by omega, rfl, fun i h1 h2 => absurd h1 (by omega)⟩
    case round =>
      obtain ⟨k, hk0, hk, rfl, hok⟩ := hrel
      have HK := Lib.hid hok
      clear hok
      by_cases hlt : k < 16
      · have ik := hi.out k hlt
        by_cases h0 : P k = 0
        · have e0 : (P k != 0) = false := by simp [h0]
          have hn : Hid (∀ i, 8 ≤ i → i < k + 1 → P i = 0) := Lib.hid fun i h1 h2 => by
            by_cases e : i = k
            · rw [e]; exact h0
            · exact HK.out i h1 (by omega)
          clear h0
          go_wp2
          go_round
          case rel => exact ⟨k + 1, by omega, by omega, by go_num, hn.out⟩
          case measure => simp [intOf]; omega
        · have e0 : (P k != 0) = true := by simp [h0]
          have hf : r = false := by
            cases r with
            | false => rfl
            | true => exact absurd (HR.out.1 rfl k hlt (.inl (by omega))) h0
          clear h0
          subst hf
          go_wp2
          go_ret
          exact ⟨rfl, (Below.refl _ _).alloc (Nat.le_refl _) _⟩
      · obtain rfl : k = 16 := by omega
        have ht : r = true := HR.out.2 fun j hj h => by
          rcases h with h | h
          · exact HK.out j (by omega) hj
          · rw [h]; exact H8.out
        subst ht
        go_wp2
        go_ret
        exact ⟨rfl, (Below.refl _ _).alloc (Nat.le_refl _) _⟩
  · have e8 : (P 8 != 0) = true := by simp [h8]
    have hf : r = false := by
      cases r with
      | false => rfl
      | true => exact absurd (HR.out.1 rfl 8 (by omega) (.inr rfl)) h8
    subst hf
    clear h8 HR hi
    go_enter Try.func18, Try.ntmps18
    go_wp2
    all_goals (go_ret; exact ⟨rfl, (Below.refl _ _).alloc (Nat.le_refl _) _⟩)
set_option maxHeartbeats 4000000 in
theorem rright_96 (P : Nat → Int) (w : World) (r : Bool) (hr : r = true ↔ TailOk P 96) : Calls Try.prog 18 #[net P 96] w fun e w' => e = .returned (.bool r) ∧ Below w.heap.size w w' := by
  have hi := Lib.hid (net_cell P 96 w)
  have HR := Lib.hid hr
  clear hr
  by_cases h8 : P 8 = 0
  · have e8 : (P 8 != 0) = false := by simp [h8]
    have H8 := Lib.hid h8
    clear h8
    go_enter Try.func18, Try.ntmps18
    go_wp2
    go_loop [3] (fun j => ∃ k : Nat, 12 ≤ k ∧ k ≤ 16 ∧ j = .int .i64 k ∧ (∀ i, 12 ≤ i → i < k → P i = 0)) (fun j => 16 - (intOf j).toNat)
    case atStart => exact ⟨12, Nat.le_refl _, by omega, rfl, fun i h1 h2 => absurd h1 (by omega)⟩
    case round =>
      obtain ⟨k, hk0, hk, rfl, hok⟩ := hrel
      have HK := Lib.hid hok
      clear hok
      by_cases hlt : k < 16
      · have ik := hi.out k hlt
        by_cases h0 : P k = 0
        · have e0 : (P k != 0) = false := by simp [h0]
          have hn : Hid (∀ i, 12 ≤ i → i < k + 1 → P i = 0) := Lib.hid fun i h1 h2 => by
            by_cases e : i = k
            · rw [e]; exact h0
            · exact HK.out i h1 (by omega)
          clear h0
          go_wp2
          go_round
          case rel => exact ⟨k + 1, by omega, by omega, by go_num, hn.out⟩
          case measure => simp [intOf]; omega
        · have e0 : (P k != 0) = true := by simp [h0]
          have hf : r = false := by
            cases r with
            | false => rfl
            | true => exact absurd (HR.out.1 rfl k hlt (.inl (by omega))) h0
          clear h0
          subst hf
          go_wp2
          go_ret
          exact ⟨rfl, (Below.refl _ _).alloc (Nat.le_refl _) _⟩
      · obtain rfl : k = 16 := by omega
        have ht : r = true := HR.out.2 fun j hj h => by
          rcases h with h | h
          · exact HK.out j (by omega) hj
          · rw [h]; exact H8.out
        subst ht
        go_wp2
        go_ret
        exact ⟨rfl, (Below.refl _ _).alloc (Nat.le_refl _) _⟩
  · have e8 : (P 8 != 0) = true := by simp [h8]
    have hf : r = false := by
      cases r with
      | false => rfl
      | true => exact absurd (HR.out.1 rfl 8 (by omega) (.inr rfl)) h8
    subst hf
    clear h8 HR hi
    go_enter Try.func18, Try.ntmps18
    go_wp2
    all_goals (go_ret; exact ⟨rfl, (Below.refl _ _).alloc (Nat.le_refl _) _⟩)
theorem rright_t (P : Nat → Int) (n : Int) (w : World) (h : RightP P n) : Calls Try.prog 18 #[net P n] w fun e w' => e = .returned (.bool true) ∧ Below w.heap.size w w' := by
  obtain ⟨hl, ht⟩ := h
  unfold LenOk at hl
  rcases hl with rfl | rfl | rfl | rfl | rfl | rfl
  · exact rright_32 P w true (by simp [ht])
  · exact rright_40 P w true (by simp [ht])
  · exact rright_48 P w true (by simp [ht])
  · exact rright_56 P w true (by simp [ht])
  · exact rright_64 P w true (by simp [ht])
  · exact rright_96 P w true (by simp [ht])
theorem rright_f (P : Nat → Int) (n : Int) (w : World) (h : ¬ RightP P n) : Calls Try.prog 18 #[net P n] w fun e w' => e = .returned (.bool false) ∧ Below w.heap.size w w' := by
  by_cases hl : LenOk n
  · have ht : ¬ TailOk P n := fun ht => h ⟨hl, ht⟩
    unfold LenOk at hl
    rcases hl with rfl | rfl | rfl | rfl | rfl | rfl
    · exact rright_32 P w false (by simp [ht])
    · exact rright_40 P w false (by simp [ht])
    · exact rright_48 P w false (by simp [ht])
    · exact rright_56 P w false (by simp [ht])
    · exact rright_64 P w false (by simp [ht])
    · exact rright_96 P w false (by simp [ht])
  · exact rright_len P n w hl
end Go.Proofs.Ytafonnelennlhaa
