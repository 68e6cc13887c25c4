/-
  Contract of icmpmap.To4: it answers by t4. Condition: the rest is a uint32.
-/
import Derived.Test.YtcppckpkiloilaaE
namespace Go.Proofs.Ytcppckpkiloilaa
open Go.RowKit

/-- The least of r - 20, a and b - 20, but at least 68, and at most 65535. -/
def min4 (r a b : Int) : Int := if b - 20 < (if a < r - 20 then a else r - 20) then b - 20 else (if a < r - 20 then a else r - 20)
def mtu4of (r a b : Int) : Int := if min4 r a b < 68 then 68 else min4 r a b
/-- What becomes of a message of IPv6 (the sides are in their bounds). -/
def u4 (k c r a b : Int) : Option (Int × Int × Int) :=
  if k = 128 ∧ c = 0 then some (8, 0, r) else if k = 129 ∧ c = 0 then some (0, 0, r) else if k = 1 then l4 c else if k = 2 ∧ c = 0 then some (3, 4, mtu4of r a b)
  else if k = 3 ∧ (c = 0 ∨ c = 1) then some (11, c, 0) else if k = 4 ∧ c = 0 then (p4 r).map (fun x => (12, 0, x * 16777216)) else if k = 4 ∧ c = 1 then some (3, 2, 0) else none

theorem ret_v4 {z y : Int} {d : ByteArray} (h : z = y) : Ending.returned (.tuple #[.agg #[.int .i64 3, .int .i64 4, .int .u32 y, .string d], .bool true]) = .returned (retM (some (3, 4, z)) d) := by rw [h]; rfl

set_option maxRecDepth 100000 in
set_option maxHeartbeats 8000000 in
theorem to4_sides (k c r : Int) (d : ByteArray) (a b : Int) (w : World) (hs : ¬ Sides a b) :
    Calls Try.prog 13 #[msgV k c r d, .int .i64 a, .int .i64 b] w fun e w' => e = .returned (retM none d) ∧ Below w.heap.size w w' := by
  have c18 := fun w => sides_f a b w hs
  clear hs
  go_enter Try.func13, Try.ntmps13
  go_wp2_with (go_at_call 18; (with_reducible refine (c18 _).mono ?_); rintro e w1 ⟨rfl, rfl⟩)
  refine bodyPost_ret (v := retM none d) (by simp [results, Try.results13, go_sem, retM]) rfl ⟨rfl, ?_⟩
  go_grown

set_option maxRecDepth 100000 in
set_option maxHeartbeats 8000000 in
theorem to4_echo (k r : Int) (d : ByteArray) (a b : Int) (w : World) (hs : Sides a b) (hr : 0 ≤ r) (hr' : r < 4294967296) (hk : k = 128 ∨ k = 129) :
    Calls Try.prog 13 #[msgV k 0 r d, .int .i64 a, .int .i64 b] w fun e w' => e = .returned (retM (some (if k = 128 then 8 else 0, 0, r)) d) ∧ Below w.heap.size w w' := by
  have c18 := fun w => sides_t a b w hs
  clear hs
  rcases hk with rfl | rfl
  all_goals
    go_enter Try.func13, Try.ntmps13
    go_wp2_with (first | (go_at_call 18; (with_reducible refine (c18 _).mono ?_); rintro e w1 ⟨rfl, rfl⟩) | (go_at_call 19; (with_reducible refine (said_small _ _ _ _ _ _ _ _ (by omega) (by omega)).mono ?_); rintro e w2 ⟨rfl, hb2⟩; obtain ⟨hc2, hf2⟩ := bcell hb2))
    refine bodyPost_ret (v := .tuple #[.agg #[.int .i64 _, .int .i64 _, .int .u32 _, .string d], .bool true]) (by simp [results, Try.results13, go_sem, hc2]) rfl ⟨rfl, ?_⟩
    have HB2 : Below w.heap.size w w2 := (((Below.refl _ _).alloc (Nat.le_refl _) _).alloc (by simp) _).trans (hb2.mono (by simp; omega))
    go_grown

set_option maxRecDepth 100000 in
set_option maxHeartbeats 8000000 in
theorem to4_lost (c r : Int) (d : ByteArray) (a b : Int) (w : World) (hs : Sides a b) :
    Calls Try.prog 13 #[msgV 1 c r d, .int .i64 a, .int .i64 b] w fun e w' => e = .returned (retM (l4 c) d) ∧ Below w.heap.size w w' := by
  have c18 := fun w => sides_t a b w hs
  have c22 := fun w => lost4_any 1 c r d w
  clear hs
  cases h : l4 c with
  | none =>
    rw [h] at c22
    simp only [retM] at c22
    go_enter Try.func13, Try.ntmps13
    go_wp2_with (first | (go_at_call 18; (with_reducible refine (c18 _).mono ?_); rintro e w1 ⟨rfl, rfl⟩) | (go_at_call 22; (with_reducible refine (c22 _).mono ?_); rintro e w2 ⟨rfl, hb2⟩; obtain ⟨hc2, hf2⟩ := bcell hb2))
    refine bodyPost_ret (v := retM none d) (by simp [results, Try.results13, go_sem, hc2, retM]) rfl ⟨rfl, ?_⟩
    have HB2 : Below w.heap.size w w2 := (((Below.refl _ _).alloc (Nat.le_refl _) _).alloc (by simp) _).trans (hb2.mono (by simp; omega))
    go_grown
  | some p =>
    obtain ⟨x, y, z⟩ := p
    rw [h] at c22
    simp only [retM] at c22
    go_enter Try.func13, Try.ntmps13
    go_wp2_with (first | (go_at_call 18; (with_reducible refine (c18 _).mono ?_); rintro e w1 ⟨rfl, rfl⟩) | (go_at_call 22; (with_reducible refine (c22 _).mono ?_); rintro e w2 ⟨rfl, hb2⟩; obtain ⟨hc2, hf2⟩ := bcell hb2))
    refine bodyPost_ret (v := .tuple #[.agg #[.int .i64 _, .int .i64 _, .int .u32 _, .string d], .bool true]) (by simp [results, Try.results13, go_sem, hc2]) rfl ⟨rfl, ?_⟩
    have HB2 : Below w.heap.size w w2 := (((Below.refl _ _).alloc (Nat.le_refl _) _).alloc (by simp) _).trans (hb2.mono (by simp; omega))
    go_grown

set_option maxRecDepth 100000 in
set_option maxHeartbeats 8000000 in
theorem to4_time (c r : Int) (d : ByteArray) (a b : Int) (w : World) (hs : Sides a b) (hc : c = 0 ∨ c = 1) :
    Calls Try.prog 13 #[msgV 3 c r d, .int .i64 a, .int .i64 b] w fun e w' => e = .returned (retM (some (11, c, 0)) d) ∧ Below w.heap.size w w' := by
  have c18 := fun w => sides_t a b w hs
  clear hs
  rcases hc with rfl | rfl
  all_goals
    go_enter Try.func13, Try.ntmps13
    go_wp2_with (first | (go_at_call 18; (with_reducible refine (c18 _).mono ?_); rintro e w1 ⟨rfl, rfl⟩) | (go_at_call 19; (with_reducible refine (said_small _ _ _ _ _ _ _ _ (by omega) (by omega)).mono ?_); rintro e w2 ⟨rfl, hb2⟩; obtain ⟨hc2, hf2⟩ := bcell hb2))
    refine bodyPost_ret (v := .tuple #[.agg #[.int .i64 _, .int .i64 _, .int .u32 _, .string d], .bool true]) (by simp [results, Try.results13, go_sem, hc2]) rfl ⟨rfl, ?_⟩
    have HB2 : Below w.heap.size w w2 := (((Below.refl _ _).alloc (Nat.le_refl _) _).alloc (by simp) _).trans (hb2.mono (by simp; omega))
    go_grown

set_option maxRecDepth 100000 in
set_option maxHeartbeats 8000000 in
theorem to4_code (r : Int) (d : ByteArray) (a b : Int) (w : World) (hs : Sides a b) :
    Calls Try.prog 13 #[msgV 4 1 r d, .int .i64 a, .int .i64 b] w fun e w' => e = .returned (retM (some (3, 2, 0)) d) ∧ Below w.heap.size w w' := by
  have c18 := fun w => sides_t a b w hs
  clear hs
  go_enter Try.func13, Try.ntmps13
  go_wp2_with (first | (go_at_call 18; (with_reducible refine (c18 _).mono ?_); rintro e w1 ⟨rfl, rfl⟩) | (go_at_call 19; (with_reducible refine (said_small _ _ _ _ _ _ _ _ (by omega) (by omega)).mono ?_); rintro e w2 ⟨rfl, hb2⟩; obtain ⟨hc2, hf2⟩ := bcell hb2))
  refine bodyPost_ret (v := .tuple #[.agg #[.int .i64 _, .int .i64 _, .int .u32 _, .string d], .bool true]) (by simp [results, Try.results13, go_sem, hc2]) rfl ⟨rfl, ?_⟩
  have HB2 : Below w.heap.size w w2 := (((Below.refl _ _).alloc (Nat.le_refl _) _).alloc (by simp) _).trans (hb2.mono (by simp; omega))
  go_grown

set_option maxRecDepth 100000 in
set_option maxHeartbeats 8000000 in
theorem to4_pointer (r : Int) (d : ByteArray) (a b : Int) (w : World) (hs : Sides a b) (hr : 0 ≤ r) (hr' : r < 4294967296) :
    Calls Try.prog 13 #[msgV 4 0 r d, .int .i64 a, .int .i64 b] w fun e w' => e = .returned (retM ((p4 r).map (fun x => (12, 0, x * 16777216))) d) ∧ Below w.heap.size w w' := by
  have c18 := fun w => sides_t a b w hs
  have c23 := fun w => pointer4_any r w hr hr'
  clear hs
  cases h : p4 r with
  | none =>
    rw [h] at c23
    simp only [retP] at c23
    clear h
    go_enter Try.func13, Try.ntmps13
    go_wp2_with (first | (go_at_call 18; (with_reducible refine (c18 _).mono ?_); rintro e w1 ⟨rfl, rfl⟩) | (go_at_call 23; (with_reducible refine (c23 _).mono ?_); rintro e w1 ⟨rfl, rfl⟩))
    refine bodyPost_ret (v := retM none d) (by simp [results, Try.results13, go_sem, retM]) rfl ⟨rfl, ?_⟩
    go_grown
  | some x =>
    have hx := p4_range h
    rw [h] at c23
    simp only [retP] at c23
    clear h
    go_enter Try.func13, Try.ntmps13
    go_wp2_with (first | (go_at_call 18; (with_reducible refine (c18 _).mono ?_); rintro e w1 ⟨rfl, rfl⟩) | (go_at_call 23; (with_reducible refine (c23 _).mono ?_); rintro e w1 ⟨rfl, rfl⟩) | (go_at_call 19; (with_reducible refine (said_small _ _ _ _ _ _ _ _ (by omega) (by omega)).mono ?_); rintro e w2 ⟨rfl, hb2⟩; obtain ⟨hc2, hf2⟩ := bcell hb2))
    refine bodyPost_ret (v := .tuple #[.agg #[.int .i64 _, .int .i64 _, .int .u32 _, .string d], .bool true]) (by simp [results, Try.results13, go_sem, hc2]) rfl ⟨rfl, ?_⟩
    have HB2 : Below w.heap.size w w2 := (((Below.refl _ _).alloc (Nat.le_refl _) _).alloc (by simp) _).trans (hb2.mono (by simp; omega))
    go_grown

set_option maxRecDepth 100000 in
set_option maxHeartbeats 8000000 in
theorem to4_mtu (r : Int) (d : ByteArray) (a b z : Int) (w : World) (hs : Sides a b) (hr : 0 ≤ r) (hr' : r < 4294967296) (hz : z = mtu4of r a b) :
    Calls Try.prog 13 #[msgV 2 0 r d, .int .i64 a, .int .i64 b] w fun e w' => e = .returned (retM (some (3, 4, z)) d) ∧ Below w.heap.size w w' := by
  have c18 := fun w => sides_t a b w hs
  obtain ⟨h1, h2, h3, h4⟩ := hs
  unfold mtu4of min4 at hz
  by_cases t1 : a < r - 20
  · rw [if_pos t1] at hz
    by_cases t2 : b - 20 < a
    · rw [if_pos t2] at hz
      by_cases t3 : b - 20 < 68
      · exact absurd t3 (by omega)
      · rw [if_neg t3] at hz
        have hz' := Lib.hid hz
        clear hz
        go_enter Try.func13, Try.ntmps13
        go_wp2_with (first | (go_at_call 18; (with_reducible refine (c18 _).mono ?_); rintro e w1 ⟨rfl, rfl⟩) | (go_at_call 19; (with_reducible refine (said_small _ _ _ _ _ _ _ _ (by omega) (by omega)).mono ?_); rintro e w2 ⟨rfl, hb2⟩; obtain ⟨hc2, hf2⟩ := bcell hb2))
        refine bodyPost_ret (v := .tuple #[.agg #[.int .i64 3, .int .i64 4, .int .u32 (b - 20), .string d], .bool true]) (by simp [results, Try.results13, go_sem, hc2]) rfl ⟨ret_v4 hz'.out, ?_⟩
        have HB2 : Below w.heap.size w w2 := (((Below.refl _ _).alloc (Nat.le_refl _) _).alloc (by simp) _).trans (hb2.mono (by simp; omega))
        go_grown
    · rw [if_neg t2] at hz
      by_cases t3 : a < 68
      · exact absurd t3 (by omega)
      · rw [if_neg t3] at hz
        have hz' := Lib.hid hz
        clear hz
        go_enter Try.func13, Try.ntmps13
        go_wp2_with (first | (go_at_call 18; (with_reducible refine (c18 _).mono ?_); rintro e w1 ⟨rfl, rfl⟩) | (go_at_call 19; (with_reducible refine (said_small _ _ _ _ _ _ _ _ (by omega) (by omega)).mono ?_); rintro e w2 ⟨rfl, hb2⟩; obtain ⟨hc2, hf2⟩ := bcell hb2))
        refine bodyPost_ret (v := .tuple #[.agg #[.int .i64 3, .int .i64 4, .int .u32 (a), .string d], .bool true]) (by simp [results, Try.results13, go_sem, hc2]) rfl ⟨ret_v4 hz'.out, ?_⟩
        have HB2 : Below w.heap.size w w2 := (((Below.refl _ _).alloc (Nat.le_refl _) _).alloc (by simp) _).trans (hb2.mono (by simp; omega))
        go_grown
  · rw [if_neg t1] at hz
    by_cases t2 : b - 20 < r - 20
    · rw [if_pos t2] at hz
      by_cases t3 : b - 20 < 68
      · exact absurd t3 (by omega)
      · rw [if_neg t3] at hz
        have hz' := Lib.hid hz
        clear hz
        go_enter Try.func13, Try.ntmps13
        go_wp2_with (first | (go_at_call 18; (with_reducible refine (c18 _).mono ?_); rintro e w1 ⟨rfl, rfl⟩) | (go_at_call 19; (with_reducible refine (said_small _ _ _ _ _ _ _ _ (by omega) (by omega)).mono ?_); rintro e w2 ⟨rfl, hb2⟩; obtain ⟨hc2, hf2⟩ := bcell hb2))
        refine bodyPost_ret (v := .tuple #[.agg #[.int .i64 3, .int .i64 4, .int .u32 (b - 20), .string d], .bool true]) (by simp [results, Try.results13, go_sem, hc2]) rfl ⟨ret_v4 hz'.out, ?_⟩
        have HB2 : Below w.heap.size w w2 := (((Below.refl _ _).alloc (Nat.le_refl _) _).alloc (by simp) _).trans (hb2.mono (by simp; omega))
        go_grown
    · rw [if_neg t2] at hz
      by_cases t3 : r - 20 < 68
      · rw [if_pos t3] at hz
        have hz' := Lib.hid hz
        clear hz
        go_enter Try.func13, Try.ntmps13
        go_wp2_with (first | (go_at_call 18; (with_reducible refine (c18 _).mono ?_); rintro e w1 ⟨rfl, rfl⟩) | (go_at_call 19; (with_reducible refine (said_small _ _ _ _ _ _ _ _ (by omega) (by omega)).mono ?_); rintro e w2 ⟨rfl, hb2⟩; obtain ⟨hc2, hf2⟩ := bcell hb2))
        refine bodyPost_ret (v := .tuple #[.agg #[.int .i64 3, .int .i64 4, .int .u32 (68), .string d], .bool true]) (by simp [results, Try.results13, go_sem, hc2]) rfl ⟨ret_v4 hz'.out, ?_⟩
        have HB2 : Below w.heap.size w w2 := (((Below.refl _ _).alloc (Nat.le_refl _) _).alloc (by simp) _).trans (hb2.mono (by simp; omega))
        go_grown
      · rw [if_neg t3] at hz
        have hz' := Lib.hid hz
        clear hz
        go_enter Try.func13, Try.ntmps13
        go_wp2_with (first | (go_at_call 18; (with_reducible refine (c18 _).mono ?_); rintro e w1 ⟨rfl, rfl⟩) | (go_at_call 19; (with_reducible refine (said_small _ _ _ _ _ _ _ _ (by omega) (by omega)).mono ?_); rintro e w2 ⟨rfl, hb2⟩; obtain ⟨hc2, hf2⟩ := bcell hb2))
        refine bodyPost_ret (v := .tuple #[.agg #[.int .i64 3, .int .i64 4, .int .u32 (r - 20), .string d], .bool true]) (by simp [results, Try.results13, go_sem, hc2]) rfl ⟨ret_v4 hz'.out, ?_⟩
        have HB2 : Below w.heap.size w w2 := (((Below.refl _ _).alloc (Nat.le_refl _) _).alloc (by simp) _).trans (hb2.mono (by simp; omega))
        go_grown

set_option maxRecDepth 100000 in
set_option maxHeartbeats 8000000 in
theorem to4_none (k c r : Int) (d : ByteArray) (a b : Int) (w : World) (hs : Sides a b)
    (h : (k = 128 ∧ c ≠ 0) ∨ (k = 129 ∧ c ≠ 0) ∨ (k = 2 ∧ c ≠ 0) ∨ (k = 3 ∧ c ≠ 0 ∧ c ≠ 1) ∨ (k = 4 ∧ c ≠ 0 ∧ c ≠ 1) ∨ (k ≠ 128 ∧ k ≠ 129 ∧ k ≠ 1 ∧ k ≠ 2 ∧ k ≠ 3 ∧ k ≠ 4)) :
    Calls Try.prog 13 #[msgV k c r d, .int .i64 a, .int .i64 b] w fun e w' => e = .returned (retM none d) ∧ Below w.heap.size w w' := by
  have c18 := fun w => sides_t a b w hs
  clear hs
  rcases h with ⟨rfl, h0⟩ | ⟨rfl, h0⟩ | ⟨rfl, h0⟩ | ⟨rfl, h0, h1⟩ | ⟨rfl, h0, h1⟩ | ⟨k8, k0, k3, k11, k12, k4⟩
  all_goals
    try replace h0 : (c == 0) = false := by simpa using h0
    try replace h1 : (c == 1) = false := by simpa using h1
    try replace k8 : (k == 128) = false := by simpa using k8
    try replace k0 : (k == 129) = false := by simpa using k0
    try replace k3 : (k == 1) = false := by simpa using k3
    try replace k11 : (k == 2) = false := by simpa using k11
    try replace k12 : (k == 3) = false := by simpa using k12
    try replace k4 : (k == 4) = false := by simpa using k4
    go_enter Try.func13, Try.ntmps13
    go_wp2_with (first | (go_at_call 18; (with_reducible refine (c18 _).mono ?_); rintro e w1 ⟨rfl, rfl⟩))
    refine bodyPost_ret (v := retM none d) (by simp [results, Try.results13, go_sem, retM]) rfl ⟨rfl, ?_⟩
    go_grown

def t4 (k c r a b : Int) : Option (Int × Int × Int) := if 68 ≤ a ∧ a ≤ 65535 ∧ 1280 ≤ b ∧ b ≤ 65575 then u4 k c r a b else none
theorem to4_any (k c r : Int) (d : ByteArray) (a b : Int) (w : World) (hr : 0 ≤ r) (hr' : r < 4294967296) :
    Calls Try.prog 13 #[msgV k c r d, .int .i64 a, .int .i64 b] w fun e w' => e = .returned (retM (t4 k c r a b) d) ∧ Below w.heap.size w w' := by
  by_cases hs : Sides a b
  · rw [show t4 k c r a b = u4 k c r a b from if_pos hs]
    by_cases k8 : k = 128 ∨ k = 129
    · by_cases c0 : c = 0
      · subst c0
        have h := to4_echo k r d a b w hs hr hr' k8
        rcases k8 with rfl | rfl <;> exact h
      · rw [u4, if_neg (by omega), if_neg (by omega), if_neg (by omega), if_neg (by omega), if_neg (by omega), if_neg (by omega), if_neg (by omega)]
        exact to4_none k c r d a b w hs (by omega)
    · by_cases k1 : k = 1
      · subst k1
        rw [u4, if_neg (by omega), if_neg (by omega), if_pos rfl]
        exact to4_lost c r d a b w hs
      · by_cases k2 : k = 2 ∧ c = 0
        · rw [u4, if_neg (by omega), if_neg (by omega), if_neg k1, if_pos k2]
          obtain ⟨rfl, rfl⟩ := k2
          exact to4_mtu r d a b _ w hs hr hr' rfl
        · by_cases k3 : k = 3 ∧ (c = 0 ∨ c = 1)
          · rw [u4, if_neg (by omega), if_neg (by omega), if_neg k1, if_neg k2, if_pos k3]
            obtain ⟨rfl, hc⟩ := k3
            exact to4_time c r d a b w hs hc
          · by_cases k4 : k = 4 ∧ c = 0
            · rw [u4, if_neg (by omega), if_neg (by omega), if_neg k1, if_neg k2, if_neg k3, if_pos k4]
              obtain ⟨rfl, rfl⟩ := k4
              exact to4_pointer r d a b w hs hr hr'
            · by_cases k5 : k = 4 ∧ c = 1
              · rw [u4, if_neg (by omega), if_neg (by omega), if_neg k1, if_neg k2, if_neg k3, if_neg k4, if_pos k5]
                obtain ⟨rfl, rfl⟩ := k5
                exact to4_code r d a b w hs
              · rw [u4, if_neg (by omega), if_neg (by omega), if_neg k1, if_neg k2, if_neg k3, if_neg k4, if_neg k5]
                exact to4_none k c r d a b w hs (by omega)
  · rw [show t4 k c r a b = none from if_neg hs]
    exact to4_sides k c r d a b w hs
end Go.Proofs.Ytcppckpkiloilaa
