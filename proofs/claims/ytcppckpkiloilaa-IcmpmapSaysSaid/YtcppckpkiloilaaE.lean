/-
  Contract of icmpmap.To6: it answers by t6. Condition: the rest is a uint32.
-/
import Derived.Test.YtcppckpkiloilaaD
namespace Go.Proofs.Ytcppckpkiloilaa
open Go.RowKit

/-- What becomes of a message of IPv4 (the sides are in their bounds). -/
def u6 (k c r a b n : Int) : Option (Int × Int × Int) :=
  if k = 8 ∧ c = 0 then some (128, 0, r) else if k = 0 ∧ c = 0 then some (129, 0, r) else if k = 3 then l6 c r a b n
  else if k = 11 ∧ (c = 0 ∨ c = 1) then some (3, c, 0) else if k = 12 ∧ (c = 0 ∨ c = 2) then (p6 (r / 16777216)).map (fun x => (4, 0, x)) else none

theorem p6_range {n x : Int} (h : p6 n = some x) : 0 ≤ x ∧ x ≤ 24 := by
  unfold p6 at h
  (repeat' split at h) <;> cases h <;> omega
theorem p4_range {n x : Int} (h : p4 n = some x) : 0 ≤ x ∧ x ≤ 16 := by
  unfold p4 at h
  (repeat' split at h) <;> cases h <;> omega

set_option maxRecDepth 100000 in
set_option maxHeartbeats 8000000 in
theorem to6_sides (k c r : Int) (d : ByteArray) (a b n : Int) (w : World) (hs : ¬ Sides a b) :
    Calls Try.prog 12 #[msgV k c r d, .int .i64 a, .int .i64 b, .int .i64 n] w fun e w' => e = .returned (retM none d) ∧ Below w.heap.size w w' := by
  have c18 := fun w => sides_f a b w hs
  clear hs
  go_enter Try.func12, Try.ntmps12
  go_wp2_with (go_at_call 18; (with_reducible refine (c18 _).mono ?_); rintro e w1 ⟨rfl, rfl⟩)
  refine bodyPost_ret (v := retM none d) (by simp [results, Try.results12, go_sem, retM]) rfl ⟨rfl, ?_⟩
  go_grown

set_option maxRecDepth 100000 in
set_option maxHeartbeats 8000000 in
theorem to6_echo (k r : Int) (d : ByteArray) (a b n : Int) (w : World) (hs : Sides a b) (hr : 0 ≤ r) (hr' : r < 4294967296) (hk : k = 8 ∨ k = 0) :
    Calls Try.prog 12 #[msgV k 0 r d, .int .i64 a, .int .i64 b, .int .i64 n] w fun e w' => e = .returned (retM (some (if k = 8 then 128 else 129, 0, r)) d) ∧ Below w.heap.size w w' := by
  have c18 := fun w => sides_t a b w hs
  clear hs
  rcases hk with rfl | rfl
  all_goals
    go_enter Try.func12, Try.ntmps12
    go_wp2_with (first | (go_at_call 18; (with_reducible refine (c18 _).mono ?_); rintro e w1 ⟨rfl, rfl⟩) | (go_at_call 19; (with_reducible refine (said_small _ _ _ _ _ _ _ _ (by omega) (by omega)).mono ?_); rintro e w2 ⟨rfl, hb2⟩; obtain ⟨hc2, hf2⟩ := bcell hb2))
    refine bodyPost_ret (v := .tuple #[.agg #[.int .i64 _, .int .i64 _, .int .u32 _, .string d], .bool true]) (by simp [results, Try.results12, go_sem, hc2]) rfl ⟨rfl, ?_⟩
    have HB2 : Below w.heap.size w w2 := (((Below.refl _ _).alloc (Nat.le_refl _) _).alloc (by simp) _).trans (hb2.mono (by simp; omega))
    go_grown

set_option maxRecDepth 100000 in
set_option maxHeartbeats 8000000 in
theorem to6_lost (c r : Int) (d : ByteArray) (a b n : Int) (w : World) (hs : Sides a b) (hr : 0 ≤ r) (hr' : r < 4294967296) :
    Calls Try.prog 12 #[msgV 3 c r d, .int .i64 a, .int .i64 b, .int .i64 n] w fun e w' => e = .returned (retM (l6 c r a b n) d) ∧ Below w.heap.size w w' := by
  have c18 := fun w => sides_t a b w hs
  have c20 := fun w => lost6_any 3 c r d a b n w hs hr hr'
  clear hs
  cases h : l6 c r a b n with
  | none =>
    rw [h] at c20
    simp only [retM] at c20
    go_enter Try.func12, Try.ntmps12
    go_wp2_with (first | (go_at_call 18; (with_reducible refine (c18 _).mono ?_); rintro e w1 ⟨rfl, rfl⟩) | (go_at_call 20; (with_reducible refine (c20 _).mono ?_); rintro e w2 ⟨rfl, hb2⟩; obtain ⟨hc2, hf2⟩ := bcell hb2))
    refine bodyPost_ret (v := retM none d) (by simp [results, Try.results12, go_sem, hc2, retM]) rfl ⟨rfl, ?_⟩
    have HB2 : Below w.heap.size w w2 := (((Below.refl _ _).alloc (Nat.le_refl _) _).alloc (by simp) _).trans (hb2.mono (by simp; omega))
    go_grown
  | some p =>
    obtain ⟨x, y, z⟩ := p
    rw [h] at c20
    simp only [retM] at c20
    go_enter Try.func12, Try.ntmps12
    go_wp2_with (first | (go_at_call 18; (with_reducible refine (c18 _).mono ?_); rintro e w1 ⟨rfl, rfl⟩) | (go_at_call 20; (with_reducible refine (c20 _).mono ?_); rintro e w2 ⟨rfl, hb2⟩; obtain ⟨hc2, hf2⟩ := bcell hb2))
    refine bodyPost_ret (v := .tuple #[.agg #[.int .i64 _, .int .i64 _, .int .u32 _, .string d], .bool true]) (by simp [results, Try.results12, go_sem, hc2]) rfl ⟨rfl, ?_⟩
    have HB2 : Below w.heap.size w w2 := (((Below.refl _ _).alloc (Nat.le_refl _) _).alloc (by simp) _).trans (hb2.mono (by simp; omega))
    go_grown

set_option maxRecDepth 100000 in
set_option maxHeartbeats 8000000 in
theorem to6_time (c r : Int) (d : ByteArray) (a b n : Int) (w : World) (hs : Sides a b) (hc : c = 0 ∨ c = 1) :
    Calls Try.prog 12 #[msgV 11 c r d, .int .i64 a, .int .i64 b, .int .i64 n] w fun e w' => e = .returned (retM (some (3, c, 0)) d) ∧ Below w.heap.size w w' := by
  have c18 := fun w => sides_t a b w hs
  clear hs
  rcases hc with rfl | rfl
  all_goals
    go_enter Try.func12, Try.ntmps12
    go_wp2_with (first | (go_at_call 18; (with_reducible refine (c18 _).mono ?_); rintro e w1 ⟨rfl, rfl⟩) | (go_at_call 19; (with_reducible refine (said_small _ _ _ _ _ _ _ _ (by omega) (by omega)).mono ?_); rintro e w2 ⟨rfl, hb2⟩; obtain ⟨hc2, hf2⟩ := bcell hb2))
    refine bodyPost_ret (v := .tuple #[.agg #[.int .i64 _, .int .i64 _, .int .u32 _, .string d], .bool true]) (by simp [results, Try.results12, go_sem, hc2]) rfl ⟨rfl, ?_⟩
    have HB2 : Below w.heap.size w w2 := (((Below.refl _ _).alloc (Nat.le_refl _) _).alloc (by simp) _).trans (hb2.mono (by simp; omega))
    go_grown
set_option maxRecDepth 100000 in
set_option maxHeartbeats 8000000 in
theorem to6_pointer (c r : Int) (d : ByteArray) (a b n : Int) (w : World) (hs : Sides a b) (hr : 0 ≤ r) (hr' : r < 4294967296) (hc : c = 0 ∨ c = 2) :
    Calls Try.prog 12 #[msgV 12 c r d, .int .i64 a, .int .i64 b, .int .i64 n] w fun e w' => e = .returned (retM ((p6 (r / 16777216)).map (fun x => (4, 0, x))) d) ∧ Below w.heap.size w w' := by
  have c18 := fun w => sides_t a b w hs
  have c21 := fun w => pointer6_any (r / 16777216) w
  clear hs
  cases h : p6 (r / 16777216) with
  | none =>
    rw [h] at c21
    simp only [retP] at c21
    clear h
    rcases hc with rfl | rfl
    all_goals
      go_enter Try.func12, Try.ntmps12
      go_wp2_with (first | (go_at_call 18; (with_reducible refine (c18 _).mono ?_); rintro e w1 ⟨rfl, rfl⟩) | (go_at_call 21; (with_reducible refine (c21 _).mono ?_); rintro e w1 ⟨rfl, rfl⟩))
      refine bodyPost_ret (v := retM none d) (by simp [results, Try.results12, go_sem, retM]) rfl ⟨rfl, ?_⟩
      go_grown
  | some x =>
    have hx := p6_range h
    rw [h] at c21
    simp only [retP] at c21
    clear h
    rcases hc with rfl | rfl
    all_goals
      go_enter Try.func12, Try.ntmps12
      go_wp2_with (first | (go_at_call 18; (with_reducible refine (c18 _).mono ?_); rintro e w1 ⟨rfl, rfl⟩) | (go_at_call 21; (with_reducible refine (c21 _).mono ?_); rintro e w1 ⟨rfl, rfl⟩) | (go_at_call 19; (with_reducible refine (said_small _ _ _ _ _ _ _ _ (by omega) (by omega)).mono ?_); rintro e w2 ⟨rfl, hb2⟩; obtain ⟨hc2, hf2⟩ := bcell hb2))
      refine bodyPost_ret (v := .tuple #[.agg #[.int .i64 _, .int .i64 _, .int .u32 _, .string d], .bool true]) (by simp [results, Try.results12, go_sem, hc2]) rfl ⟨rfl, ?_⟩
      have HB2 : Below w.heap.size w w2 := (((Below.refl _ _).alloc (Nat.le_refl _) _).alloc (by simp) _).trans (hb2.mono (by simp; omega))
      go_grown

set_option maxRecDepth 100000 in
set_option maxHeartbeats 8000000 in
theorem to6_none (k c r : Int) (d : ByteArray) (a b n : Int) (w : World) (hs : Sides a b)
    (h : (k = 8 ∧ c ≠ 0) ∨ (k = 0 ∧ c ≠ 0) ∨ (k = 11 ∧ c ≠ 0 ∧ c ≠ 1) ∨ (k = 12 ∧ c ≠ 0 ∧ c ≠ 2) ∨ (k ≠ 8 ∧ k ≠ 0 ∧ k ≠ 3 ∧ k ≠ 11 ∧ k ≠ 12)) :
    Calls Try.prog 12 #[msgV k c r d, .int .i64 a, .int .i64 b, .int .i64 n] w fun e w' => e = .returned (retM none d) ∧ Below w.heap.size w w' := by
  have c18 := fun w => sides_t a b w hs
  clear hs
  rcases h with ⟨rfl, h0⟩ | ⟨rfl, h0⟩ | ⟨rfl, h0, h1⟩ | ⟨rfl, h0, h2⟩ | ⟨k8, k0, k3, k11, k12⟩
  all_goals
    try replace h0 : (c == 0) = false := by simpa using h0
    try replace h1 : (c == 1) = false := by simpa using h1
    try replace h2 : (c == 2) = false := by simpa using h2
    try replace k8 : (k == 8) = false := by simpa using k8
    try replace k0 : (k == 0) = false := by simpa using k0
    try replace k3 : (k == 3) = false := by simpa using k3
    try replace k11 : (k == 11) = false := by simpa using k11
    try replace k12 : (k == 12) = false := by simpa using k12
    go_enter Try.func12, Try.ntmps12
    go_wp2_with (first | (go_at_call 18; (with_reducible refine (c18 _).mono ?_); rintro e w1 ⟨rfl, rfl⟩))
    refine bodyPost_ret (v := retM none d) (by simp [results, Try.results12, go_sem, retM]) rfl ⟨rfl, ?_⟩
    go_grown

def t6 (k c r a b n : Int) : Option (Int × Int × Int) := if 68 ≤ a ∧ a ≤ 65535 ∧ 1280 ≤ b ∧ b ≤ 65575 then u6 k c r a b n else none
theorem to6_any (k c r : Int) (d : ByteArray) (a b n : Int) (w : World) (hr : 0 ≤ r) (hr' : r < 4294967296) :
    Calls Try.prog 12 #[msgV k c r d, .int .i64 a, .int .i64 b, .int .i64 n] w fun e w' => e = .returned (retM (t6 k c r a b n) d) ∧ Below w.heap.size w w' := by
  by_cases hs : Sides a b
  · rw [show t6 k c r a b n = u6 k c r a b n from if_pos hs]
    by_cases k8 : k = 8 ∨ k = 0
    · by_cases c0 : c = 0
      · subst c0
        have h := to6_echo k r d a b n w hs hr hr' k8
        rcases k8 with rfl | rfl <;> exact h
      · rw [u6, if_neg (by omega), if_neg (by omega), if_neg (by omega), if_neg (by omega), if_neg (by omega)]
        exact to6_none k c r d a b n w hs (by omega)
    · by_cases k3 : k = 3
      · subst k3
        rw [u6, if_neg (by omega), if_neg (by omega), if_pos rfl]
        exact to6_lost c r d a b n w hs hr hr'
      · by_cases k11 : k = 11 ∧ (c = 0 ∨ c = 1)
        · rw [u6, if_neg (by omega), if_neg (by omega), if_neg k3, if_pos k11]
          obtain ⟨rfl, hc⟩ := k11
          exact to6_time c r d a b n w hs hc
        · by_cases k12 : k = 12 ∧ (c = 0 ∨ c = 2)
          · rw [u6, if_neg (by omega), if_neg (by omega), if_neg k3, if_neg k11, if_pos k12]
            obtain ⟨rfl, hc⟩ := k12
            exact to6_pointer c r d a b n w hs hr hr' hc
          · rw [u6, if_neg (by omega), if_neg (by omega), if_neg k3, if_neg k11, if_neg k12]
            exact to6_none k c r d a b n w hs (by omega)
  · rw [show t6 k c r a b n = none from if_neg hs]
    exact to6_sides k c r d a b n w hs
end Go.Proofs.Ytcppckpkiloilaa
