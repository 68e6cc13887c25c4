/-
  Contract of the reference's Inside. Conditions stand in each statement.
-/
import Derived.Test.YtafonnelennlhaaI
import Derived.Deep.QuietTactic
import Derived.BigQuiet
namespace Go.Proofs.Ytafonnelennlhaa
open Go.RowKit
set_option linter.unusedSimpArgs false
set_option linter.unusedVariables false

set_option maxHeartbeats 4000000 in
theorem rinside_f (P X : Nat → Int) (n : Int) (w : World) (h : ¬ RightP P n) : Calls Try.prog 20 #[net P n, .agg (a16 X)] w fun e w' => e = .returned (.bool false) ∧ Below w.heap.size w w' := by
  have c18 := fun w => rright_f P n w h
  clear h
  go_enter Try.func20, Try.ntmps20
  go_wp2_with (first | (go_at_call 18; (with_reducible refine (c18 _).mono ?_); rintro e w1 ⟨rfl, hb1⟩; have HB : Below w.heap.size w w1 := (((Below.refl _ _).alloc (Nat.le_refl _) _).alloc (by simp) _).trans (hb1.mono (by simp; omega)); have B0 := ((Blk.new w 26 (netC P n) rfl).alloc _).below hb1; have B1 := (Blk.new _ 23 (a16 X) (by simp : _ = w.heap.size + 1)).below hb1; clear hb1) | (refine ld_part ((Blk.new w 26 _ rfl).alloc _) rfl 26 (.tmp 2) rfl 0 rfl (netC P n) _ Try.underlying26 rfl (by kernel_rfl) (by kernel_rfl) ?_))
  go_ret
  exact ⟨rfl, HB⟩
set_option maxHeartbeats 4000000 in
theorem rinside_32 (P X : Nat → Int) (w : World) (h : RightP P 32) (r : Bool) (hr : r = true ↔ EqTo P X 4) : Calls Try.prog 20 #[net P 32, .agg (a16 X)] w fun e w' => e = .returned (.bool r) ∧ Below w.heap.size w w' := by
  have c18 := fun w => rright_t P 32 w h
  have HR := Lib.hid hr
  clear hr h
  go_enter Try.func20, Try.ntmps20
  go_wp2_with (first | (go_at_call 18; (with_reducible refine (c18 _).mono ?_); rintro e w1 ⟨rfl, hb1⟩; have HB : Below w.heap.size w w1 := (((Below.refl _ _).alloc (Nat.le_refl _) _).alloc (by simp) _).trans (hb1.mono (by simp; omega)); have B0 := ((Blk.new w 26 (netC P 32) rfl).alloc _).below hb1; have B1 := (Blk.new _ 23 (a16 X) (by simp : _ = w.heap.size + 1)).below hb1; clear hb1) | (refine ld_part ((Blk.new w 26 _ rfl).alloc _) rfl 26 (.tmp 2) rfl 0 rfl (netC P 32) _ Try.underlying26 rfl (by kernel_rfl) (by kernel_rfl) ?_))
  have l0 := B0.lt
  have l1 := B1.lt
  have HP := Lib.hid fun k (hk : k < 16) => B0.cell (netC_at P 32 k hk)
  have HX := Lib.hid fun k (hk : k < 16) => B1.cell (get16 X k hk)
  have HN := Lib.hid (B0.cell (i := 16) (v := .int .i64 32) rfl)
  have HB' := Lib.hid HB
  clear B0 B1 HB
  go_loopw [5] (fun j wr => ∃ k : Nat, k ≤ 4 ∧ j = .int .i64 k ∧ (∀ i, i < k → P i = X i) ∧ Below w1.heap.size w1 wr) (fun j _ => 4 - (intOf j).toNat)
  case atStart => exact ⟨0, by omega, rfl, fun i h => absurd h (by omega), Below.refl _ _⟩
  case round =>
    obtain ⟨k, hk, rfl, hok, hB⟩ := hrel
    have HK := Lib.hid hok
    have HBr := Lib.hid hB
    clear hok
    have cN : wr.cell? ⟨w.heap.size, 16, none⟩ = some (.int .i64 32) := (hB.cell (p := ⟨w.heap.size, 16, none⟩) l0).trans HN.out
    by_cases hlt : k < 4
    · have c0 : wr.cell? ⟨w.heap.size, k, none⟩ = some (.int .u8 (P k)) := (hB.cell (p := ⟨w.heap.size, k, none⟩) l0).trans (HP.out k (by omega))
      have c1 : wr.cell? ⟨w.heap.size + 1, k, none⟩ = some (.int .u8 (X k)) := (hB.cell (p := ⟨w.heap.size + 1, k, none⟩) l1).trans (HX.out k (by omega))
      have i0 : (0 : Int) ≤ (k : Int) := by omega
      have i1 : (k : Int) < 16 := by omega
      clear hB
      by_cases he : P k = X k
      · have e0 : (P k != X k) = false := by simp [he]
        have hn : Hid (∀ i, i < k + 1 → P i = X i) := Lib.hid fun i h2 => by
          by_cases e : i = k
          · rw [e]; exact he
          · exact HK.out i (by omega)
        clear he
        go_wp2
        go_quiet (fail)
        go_wp2
        go_roundw
        case rel => exact ⟨k + 1, by omega, by go_num, hn.out, below_drewN HBr.out _⟩
        case measure => simp [intOf]; omega
      · have e0 : (P k != X k) = true := by simp [he]
        have hf : r = false := by
          cases r with
          | false => rfl
          | true => exact absurd (HR.out.1 rfl k (by omega)) he
        subst hf
        clear he
        go_wp2
        go_quiet (fail)
        go_wp2
        go_ret
        exact ⟨rfl, HB'.out.trans ((below_drewN HBr.out _).mono HB'.out.size)⟩
    · obtain rfl : k = 4 := by omega
      have ht : r = true := HR.out.2 fun j hj => HK.out j hj
      subst ht
      clear hB
      go_wp2
      go_ret
      exact ⟨rfl, HB'.out.trans (HBr.out.mono HB'.out.size)⟩
set_option maxHeartbeats 4000000 in
theorem rinside_40 (P X : Nat → Int) (w : World) (h : RightP P 40) (r : Bool) (hr : r = true ↔ EqTo P X 5) : Calls Try.prog 20 #[net P 40, .agg (a16 X)] w fun e w' => e = .returned (.bool r) ∧ Below w.heap.size w w' := by
  have c18 := fun w => rright_t P 40 w h
  have HR := Lib.hid hr
  clear hr h
  go_enter Try.func20, Try.ntmps20
  go_wp2_with (first | (go_at_call 18; (with_reducible refine (c18 _).mono ?_); rintro e w1 ⟨rfl, hb1⟩; have HB : Below w.heap.size w w1 := (((Below.refl _ _).alloc (Nat.le_refl _) _).alloc (by simp) _).trans (hb1.mono (by simp; omega)); have B0 := ((Blk.new w 26 (netC P 40) rfl).alloc _).below hb1; have B1 := (Blk.new _ 23 (a16 X) (by simp : _ = w.heap.size + 1)).below hb1; clear hb1) | (refine ld_part ((Blk.new w 26 _ rfl).alloc _) rfl 26 (.tmp 2) rfl 0 rfl (netC P 40) _ Try.underlying26 rfl (by kernel_rfl) (by kernel_rfl) ?_))
  have l0 := B0.lt
  have l1 := B1.lt
  have HP := Lib.hid fun k (hk : k < 16) => B0.cell (netC_at P 40 k hk)
  have HX := Lib.hid fun k (hk : k < 16) => B1.cell (get16 X k hk)
  have HN := Lib.hid (B0.cell (i := 16) (v := .int .i64 40) rfl)
  have HB' := Lib.hid HB
  clear B0 B1 HB
  go_loopw [5] (fun j wr => ∃ k : Nat, k ≤ 5 ∧ j = .int .i64 k ∧ (∀ i, i < k → P i = X i) ∧ Below w1.heap.size w1 wr) (fun j _ => 5 - (intOf j).toNat)
  case atStart => exact ⟨0, by omega, rfl, fun i h => absurd h (by omega), Below.refl _ _⟩
  case round =>
    obtain ⟨k, hk, rfl, hok, hB⟩ := hrel
    have HK := Lib.hid hok
    have HBr := Lib.hid hB
    clear hok
    have cN : wr.cell? ⟨w.heap.size, 16, none⟩ = some (.int .i64 40) := (hB.cell (p := ⟨w.heap.size, 16, none⟩) l0).trans HN.out
    by_cases hlt : k < 5
    · have c0 : wr.cell? ⟨w.heap.size, k, none⟩ = some (.int .u8 (P k)) := (hB.cell (p := ⟨w.heap.size, k, none⟩) l0).trans (HP.out k (by omega))
      have c1 : wr.cell? ⟨w.heap.size + 1, k, none⟩ = some (.int .u8 (X k)) := (hB.cell (p := ⟨w.heap.size + 1, k, none⟩) l1).trans (HX.out k (by omega))
      have i0 : (0 : Int) ≤ (k : Int) := by omega
      have i1 : (k : Int) < 16 := by omega
      clear hB
      by_cases he : P k = X k
      · have e0 : (P k != X k) = false := by simp [he]
        have hn : Hid (∀ i, i < k + 1 → P i = X i) := Lib.hid fun i h2 => by
          by_cases e : i = k
          · rw [e]; exact he
          · exact HK.out i (by omega)
        clear he
        go_wp2
        go_quiet (fail)
        go_wp2
        go_roundw
        case rel => exact ⟨k + 1, by omega, by go_num, hn.out, below_drewN HBr.out _⟩
        case measure => simp [intOf]; omega
      · have e0 : (P k != X k) = true := by simp [he]
        have hf : r = false := by
          cases r with
          | false => rfl
          | true => exact absurd (HR.out.1 rfl k (by omega)) he
        subst hf
        clear he
        go_wp2
        go_quiet (fail)
        go_wp2
        go_ret
        exact ⟨rfl, HB'.out.trans ((below_drewN HBr.out _).mono HB'.out.size)⟩
    · obtain rfl : k = 5 := by omega
      have ht : r = true := HR.out.2 fun j hj => HK.out j hj
      subst ht
      clear hB
      go_wp2
      go_ret
      exact ⟨rfl, HB'.out.trans (HBr.out.mono HB'.out.size)⟩
set_option maxHeartbeats 4000000 in
theorem rinside_48 (P X : Nat → Int) (w : World) (h : RightP P 48) (r : Bool) (hr : r = true ↔ EqTo P X 6) : Calls Try.prog 20 #[net P 48, .agg (a16 X)] w fun e w' => e = .returned (.bool r) ∧ Below w.heap.size w w' := by
  have c18 := fun w => rright_t P 48 w h
  have HR := Lib.hid hr
  clear hr h
  go_enter Try.func20, Try.ntmps20
  go_wp2_with (first | (go_at_call 18; (with_reducible refine (c18 _).mono ?_); rintro e w1 ⟨rfl, hb1⟩; have HB : Below w.heap.size w w1 := (((Below.refl _ _).alloc (Nat.le_refl _) _).alloc (by simp) _).trans (hb1.mono (by simp; omega)); have B0 := ((Blk.new w 26 (netC P 48) rfl).alloc _).below hb1; have B1 := (Blk.new _ 23 (a16 X) (by simp : _ = w.heap.size + 1)).below hb1; clear hb1) | (refine ld_part ((Blk.new w 26 _ rfl).alloc _) rfl 26 (.tmp 2) rfl 0 rfl (netC P 48) _ Try.underlying26 rfl (by kernel_rfl) (by kernel_rfl) ?_))
  have l0 := B0.lt
  have l1 := B1.lt
  have HP := Lib.hid fun k (hk : k < 16) => B0.cell (netC_at P 48 k hk)
  have HX := Lib.hid fun k (hk : k < 16) => B1.cell (get16 X k hk)
  have HN := Lib.hid (B0.cell (i := 16) (v := .int .i64 48) rfl)
  have HB' := Lib.hid HB
  clear B0 B1 HB
  go_loopw [5] (fun j wr => ∃ k : Nat, k ≤ 6 ∧ j = .int .i64 k ∧ (∀ i, i < k → P i = X i) ∧ Below w1.heap.size w1 wr) (fun j _ => 6 - (intOf j).toNat)
  case atStart => exact ⟨0, by omega, rfl, fun i h => absurd h (by omega), Below.refl _ _⟩
  case round =>
    obtain ⟨k, hk, rfl, hok, hB⟩ := hrel
    have HK := Lib.hid hok
    have HBr := Lib.hid hB
    clear hok
    have cN : wr.cell? ⟨w.heap.size, 16, none⟩ = some (.int .i64 48) := (hB.cell (p := ⟨w.heap.size, 16, none⟩) l0).trans HN.out
    by_cases hlt : k < 6
    · have c0 : wr.cell? ⟨w.heap.size, k, none⟩ = some (.int .u8 (P k)) := (hB.cell (p := ⟨w.heap.size, k, none⟩) l0).trans (HP.out k (by omega))
      have c1 : wr.cell? ⟨w.heap.size + 1, k, none⟩ = some (.int .u8 (X k)) := (hB.cell (p := ⟨w.heap.size + 1, k, none⟩) l1).trans (HX.out k (by omega))
      have i0 : (0 : Int) ≤ (k : Int) := by omega
      have i1 : (k : Int) < 16 := by omega
      clear hB
      by_cases he : P k = X k
      · have e0 : (P k != X k) = false := by simp [he]
        have hn : Hid (∀ i, i < k + 1 → P i = X i) := Lib.hid fun i h2 => by
          by_cases e : i = k
          · rw [e]; exact he
          · exact HK.out i (by omega)
        clear he
        go_wp2
        go_quiet (fail)
        go_wp2
        go_roundw
        case rel => exact ⟨k + 1, by omega, by go_num, hn.out, below_drewN HBr.out _⟩
        case measure => simp [intOf]; omega
      · have e0 : (P k != X k) = true := by simp [he]
        have hf : r = false := by
          cases r with
          | false => rfl
          | true => exact absurd (HR.out.1 rfl k (by omega)) he
        subst hf
        clear he
        go_wp2
        go_quiet (fail)
        go_wp2
        go_ret
        exact ⟨rfl, HB'.out.trans ((below_drewN HBr.out _).mono HB'.out.size)⟩
    · obtain rfl : k = 6 := by omega
      have ht : r = true := HR.out.2 fun j hj => HK.out j hj
      subst ht
      clear hB
      go_wp2
      go_ret
      exact ⟨rfl, HB'.out.trans (HBr.out.mono HB'.out.size)⟩
set_option maxHeartbeats 4000000 in
theorem rinside_56 (P X : Nat → Int) (w : World) (h : RightP P 56) (r : Bool) (hr : r = true ↔ EqTo P X 7) : Calls Try.prog 20 #[net P 56, .agg (a16 X)] w fun e w' => e = .returned (.bool r) ∧ Below w.heap.size w w' := by
  have c18 := fun w => rright_t P 56 w h
  have HR := Lib.hid hr
  clear hr h
  go_enter Try.func20, Try.ntmps20
  go_wp2_with (first | (go_at_call 18; (with_reducible refine (c18 _).mono ?_); rintro e w1 ⟨rfl, hb1⟩; have HB : Below w.heap.size w w1 := (((Below.refl _ _).alloc (Nat.le_refl _) _).alloc (by simp) _).trans (hb1.mono (by simp; omega)); have B0 := ((Blk.new w 26 (netC P 56) rfl).alloc _).below hb1; have B1 := (Blk.new _ 23 (a16 X) (by simp : _ = w.heap.size + 1)).below hb1; clear hb1) | (refine ld_part ((Blk.new w 26 _ rfl).alloc _) rfl 26 (.tmp 2) rfl 0 rfl (netC P 56) _ Try.underlying26 rfl (by kernel_rfl) (by kernel_rfl) ?_))
  have l0 := B0.lt
  have l1 := B1.lt
  have HP := Lib.hid fun k (hk : k < 16) => B0.cell (netC_at P 56 k hk)
  have HX := Lib.hid fun k (hk : k < 16) => B1.cell (get16 X k hk)
  have HN := Lib.hid (B0.cell (i := 16) (v := .int .i64 56) rfl)
  have HB' := Lib.hid HB
  clear B0 B1 HB
  go_loopw [5] (fun j wr => ∃ k : Nat, k ≤ 7 ∧ j = .int .i64 k ∧ (∀ i, i < k → P i = X i) ∧ Below w1.heap.size w1 wr) (fun j _ => 7 - (intOf j).toNat)
  case atStart => exact ⟨0, by omega, rfl, fun i h => absurd h (by omega), Below.refl _ _⟩
  case round =>
    obtain ⟨k, hk, rfl, hok, hB⟩ := hrel
    have HK := Lib.hid hok
    have HBr := Lib.hid hB
    clear hok
    have cN : wr.cell? ⟨w.heap.size, 16, none⟩ = some (.int .i64 56) := (hB.cell (p := ⟨w.heap.size, 16, none⟩) l0).trans HN.out
    by_cases hlt : k < 7
    · have c0 : wr.cell? ⟨w.heap.size, k, none⟩ = some (.int .u8 (P k)) := (hB.cell (p := ⟨w.heap.size, k, none⟩) l0).trans (HP.out k (by omega))
      have c1 : wr.cell? ⟨w.heap.size + 1, k, none⟩ = some (.int .u8 (X k)) := (hB.cell (p := ⟨w.heap.size + 1, k, none⟩) l1).trans (HX.out k (by omega))
      have i0 : (0 : Int) ≤ (k : Int) := by omega
      have i1 : (k : Int) < 16 := by omega
      clear hB
      by_cases he : P k = X k
      · have e0 : (P k != X k) = false := by simp [he]
        have hn : Hid (∀ i, i < k + 1 → P i = X i) := Lib.hid fun i h2 => by
          by_cases e : i = k
          · rw [e]; exact he
          · exact HK.out i (by omega)
        clear he
        go_wp2
        go_quiet (fail)
        go_wp2
        go_roundw
        case rel => exact ⟨k + 1, by omega, by go_num, hn.out, below_drewN HBr.out _⟩
        case measure => simp [intOf]; omega
      · have e0 : (P k != X k) = true := by simp [he]
        have hf : r = false := by
          cases r with
          | false => rfl
          | true => exact absurd (HR.out.1 rfl k (by omega)) he
        subst hf
        clear he
        go_wp2
        go_quiet (fail)
        go_wp2
        go_ret
        exact ⟨rfl, HB'.out.trans ((below_drewN HBr.out _).mono HB'.out.size)⟩
    · obtain rfl : k = 7 := by omega
      have ht : r = true := HR.out.2 fun j hj => HK.out j hj
      subst ht
      clear hB
      go_wp2
      go_ret
      exact ⟨rfl, HB'.out.trans (HBr.out.mono HB'.out.size)⟩
set_option maxHeartbeats 4000000 in
theorem rinside_64 (P X : Nat → Int) (w : World) (h : RightP P 64) (r : Bool) (hr : r = true ↔ EqTo P X 8) : Calls Try.prog 20 #[net P 64, .agg (a16 X)] w fun e w' => e = .returned (.bool r) ∧ Below w.heap.size w w' := by
  have c18 := fun w => rright_t P 64 w h
  have HR := Lib.hid hr
  clear hr h
  go_enter Try.func20, Try.ntmps20
  go_wp2_with (first | (go_at_call 18; (with_reducible refine (c18 _).mono ?_); rintro e w1 ⟨rfl, hb1⟩; have HB : Below w.heap.size w w1 := (((Below.refl _ _).alloc (Nat.le_refl _) _).alloc (by simp) _).trans (hb1.mono (by simp; omega)); have B0 := ((Blk.new w 26 (netC P 64) rfl).alloc _).below hb1; have B1 := (Blk.new _ 23 (a16 X) (by simp : _ = w.heap.size + 1)).below hb1; clear hb1) | (refine ld_part ((Blk.new w 26 _ rfl).alloc _) rfl 26 (.tmp 2) rfl 0 rfl (netC P 64) _ Try.underlying26 rfl (by kernel_rfl) (by kernel_rfl) ?_))
  have l0 := B0.lt
  have l1 := B1.lt
  have HP := Lib.hid fun k (hk : k < 16) => B0.cell (netC_at P 64 k hk)
  have HX := Lib.hid fun k (hk : k < 16) => B1.cell (get16 X k hk)
  have HN := Lib.hid (B0.cell (i := 16) (v := .int .i64 64) rfl)
  have HB' := Lib.hid HB
  clear B0 B1 HB
  go_loopw [5] (fun j wr => ∃ k : Nat, k ≤ 8 ∧ j = .int .i64 k ∧ (∀ i, i < k → P i = X i) ∧ Below w1.heap.size w1 wr) (fun j _ => 8 - (intOf j).toNat)
  case atStart => exact ⟨0, by omega, rfl, fun i h => absurd h (by omega), Below.refl _ _⟩
  case round =>
    obtain ⟨k, hk, rfl, hok, hB⟩ := hrel
    have HK := Lib.hid hok
    have HBr := Lib.hid hB
    clear hok
    have cN : wr.cell? ⟨w.heap.size, 16, none⟩ = some (.int .i64 64) := (hB.cell (p := ⟨w.heap.size, 16, none⟩) l0).trans HN.out
    by_cases hlt : k < 8
    · have c0 : wr.cell? ⟨w.heap.size, k, none⟩ = some (.int .u8 (P k)) := (hB.cell (p := ⟨w.heap.size, k, none⟩) l0).trans (HP.out k (by omega))
      have c1 : wr.cell? ⟨w.heap.size + 1, k, none⟩ = some (.int .u8 (X k)) := (hB.cell (p := ⟨w.heap.size + 1, k, none⟩) l1).trans (HX.out k (by omega))
      have i0 : (0 : Int) ≤ (k : Int) := by omega
      have i1 : (k : Int) < 16 := by omega
      clear hB
      by_cases he : P k = X k
      · have e0 : (P k != X k) = false := by simp [he]
        have hn : Hid (∀ i, i < k + 1 → P i = X i) := Lib.hid fun i h2 => by
          by_cases e : i = k
          · rw [e]; exact he
          · exact HK.out i (by omega)
        clear he
        go_wp2
        go_quiet (fail)
        go_wp2
        go_roundw
        case rel => exact ⟨k + 1, by omega, by go_num, hn.out, below_drewN HBr.out _⟩
        case measure => simp [intOf]; omega
      · have e0 : (P k != X k) = true := by simp [he]
        have hf : r = false := by
          cases r with
          | false => rfl
          | true => exact absurd (HR.out.1 rfl k (by omega)) he
        subst hf
        clear he
        go_wp2
        go_quiet (fail)
        go_wp2
        go_ret
        exact ⟨rfl, HB'.out.trans ((below_drewN HBr.out _).mono HB'.out.size)⟩
    · obtain rfl : k = 8 := by omega
      have ht : r = true := HR.out.2 fun j hj => HK.out j hj
      subst ht
      clear hB
      go_wp2
      go_ret
      exact ⟨rfl, HB'.out.trans (HBr.out.mono HB'.out.size)⟩
set_option maxHeartbeats 4000000 in
theorem rinside_96 (P X : Nat → Int) (w : World) (h : RightP P 96) (r : Bool) (hr : r = true ↔ EqTo P X 12) : Calls Try.prog 20 #[net P 96, .agg (a16 X)] w fun e w' => e = .returned (.bool r) ∧ Below w.heap.size w w' := by
  have c18 := fun w => rright_t P 96 w h
  have HR := Lib.hid hr
  clear hr h
  go_enter Try.func20, Try.ntmps20
  go_wp2_with (first | (go_at_call 18; (with_reducible refine (c18 _).mono ?_); rintro e w1 ⟨rfl, hb1⟩; have HB : Below w.heap.size w w1 := (((Below.refl _ _).alloc (Nat.le_refl _) _).alloc (by simp) _).trans (hb1.mono (by simp; omega)); have B0 := ((Blk.new w 26 (netC P 96) rfl).alloc _).below hb1; have B1 := (Blk.new _ 23 (a16 X) (by simp : _ = w.heap.size + 1)).below hb1; clear hb1) | (refine ld_part ((Blk.new w 26 _ rfl).alloc _) rfl 26 (.tmp 2) rfl 0 rfl (netC P 96) _ Try.underlying26 rfl (by kernel_rfl) (by kernel_rfl) ?_))
  have l0 := B0.lt
  have l1 := B1.lt
  have HP := Lib.hid fun k (hk : k < 16) => B0.cell (netC_at P 96 k hk)
  have HX := Lib.hid fun k (hk : k < 16) => B1.cell (get16 X k hk)
  have HN := Lib.hid (B0.cell (i := 16) (v := .int .i64 96) rfl)
  have HB' := Lib.hid HB
  clear B0 B1 HB
  go_loopw [5] (fun j wr => ∃ k : Nat, k ≤ 12 ∧ j = .int .i64 k ∧ (∀ i, i < k → P i = X i) ∧ Below w1.heap.size w1 wr) (fun j _ => 12 - (intOf j).toNat)
  case atStart => exact ⟨0, by omega, rfl, fun i h => absurd h (by omega), Below.refl _ _⟩
  case round =>
    obtain ⟨k, hk, rfl, hok, hB⟩ := hrel
    have HK := Lib.hid hok
    have HBr := Lib.hid hB
    clear hok
    have cN : wr.cell? ⟨w.heap.size, 16, none⟩ = some (.int .i64 96) := (hB.cell (p := ⟨w.heap.size, 16, none⟩) l0).trans HN.out
    by_cases hlt : k < 12
    · have c0 : wr.cell? ⟨w.heap.size, k, none⟩ = some (.int .u8 (P k)) := (hB.cell (p := ⟨w.heap.size, k, none⟩) l0).trans (HP.out k (by omega))
      have c1 : wr.cell? ⟨w.heap.size + 1, k, none⟩ = some (.int .u8 (X k)) := (hB.cell (p := ⟨w.heap.size + 1, k, none⟩) l1).trans (HX.out k (by omega))
      have i0 : (0 : Int) ≤ (k : Int) := by omega
      have i1 : (k : Int) < 16 := by omega
      clear hB
      by_cases he : P k = X k
      · have e0 : (P k != X k) = false := by simp [he]
        have hn : Hid (∀ i, i < k + 1 → P i = X i) := Lib.hid fun i h2 => by
          by_cases e : i = k
          · rw [e]; exact he
          · exact HK.out i (by omega)
        clear he
        go_wp2
        go_quiet (fail)
        go_wp2
        go_roundw
        case rel => exact ⟨k + 1, by omega, by go_num, hn.out, below_drewN HBr.out _⟩
        case measure => simp [intOf]; omega
      · have e0 : (P k != X k) = true := by simp [he]
        have hf : r = false := by
          cases r with
          | false => rfl
          | true => exact absurd (HR.out.1 rfl k (by omega)) he
        subst hf
        clear he
        go_wp2
        go_quiet (fail)
        go_wp2
        go_ret
        exact ⟨rfl, HB'.out.trans ((below_drewN HBr.out _).mono HB'.out.size)⟩
    · obtain rfl : k = 12 := by omega
      have ht : r = true := HR.out.2 fun j hj => HK.out j hj
      subst ht
      clear hB
      go_wp2
      go_ret
      exact ⟨rfl, HB'.out.trans (HBr.out.mono HB'.out.size)⟩
theorem rinside_any (P X : Nat → Int) (n : Int) (w : World) (r : Bool) (hr : r = true ↔ InsideP P X n) :
    Calls Try.prog 20 #[net P n, .agg (a16 X)] w fun e w' => e = .returned (.bool r) ∧ Below w.heap.size w w' := by
  by_cases h : RightP P n
  · have hl := h.1
    have hr' : r = true ↔ EqTo P X (n / 8).toNat := hr.trans ⟨fun x => x.2, fun x => ⟨h, x⟩⟩
    unfold LenOk at hl
    rcases hl with rfl | rfl | rfl | rfl | rfl | rfl
    · exact rinside_32 P X w h r hr'
    · exact rinside_40 P X w h r hr'
    · exact rinside_48 P X w h r hr'
    · exact rinside_56 P X w h r hr'
    · exact rinside_64 P X w h r hr'
    · exact rinside_96 P X w h r hr'
  · have hf : r = false := by
      cases r with
      | false => rfl
      | true => exact absurd (hr.1 rfl).1 h
    subst hf
    exact rinside_f P X n w h
end Go.Proofs.Ytafonnelennlhaa
