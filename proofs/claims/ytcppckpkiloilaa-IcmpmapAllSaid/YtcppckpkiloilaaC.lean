/-
  Contracts of icmpmap's lost6, lost4: what they answer, by l6 and l4. Conditions stand in each statement.
-/
import Derived.Test.YtcppckpkiloilaaB
namespace Go.Proofs.Ytcppckpkiloilaa
open Go.RowKit

theorem bcell {W w1 : World} (hb : Below W.heap.size W w1) : (∀ b o, b < W.heap.size → w1.cell? ⟨b, o, none⟩ = W.cell? ⟨b, o, none⟩) ∧ (∀ b o, b < W.heap.size → w1.frozen? ⟨b, o, none⟩ = W.frozen? ⟨b, o, none⟩) :=
  ⟨fun b o h => hb.cell (p := ⟨b, o, none⟩) h, fun b o h => hb.frozen (p := ⟨b, o, none⟩) h⟩
abbrev msgV (k c r : Int) (d : ByteArray) : Value := .agg #[.int .i64 k, .int .i64 c, .int .u32 r, .string d]
/-- The least of m + 20, b and a + 20, but at least 1280. -/
def least6 (m a b : Int) : Int :=
  if (if a + 20 < (if b < m + 20 then b else m + 20) then a + 20 else (if b < m + 20 then b else m + 20)) < 1280 then 1280 else (if a + 20 < (if b < m + 20 then b else m + 20) then a + 20 else (if b < m + 20 then b else m + 20))
/-- The MTU that is told over IPv6. -/
def mtu6of (r a b n : Int) : Int := least6 (if r % 65536 = 0 then pl n else r % 65536) a b
def l6 (c r a b n : Int) : Option (Int × Int × Int) :=
  if c = 0 ∨ c = 1 ∨ c = 5 ∨ c = 6 ∨ c = 7 ∨ c = 8 ∨ c = 11 ∨ c = 12 then some (1, 0, 0)
  else if c = 9 ∨ c = 10 ∨ c = 13 ∨ c = 15 then some (1, 1, 0)
  else if c = 3 then some (1, 4, 0) else if c = 2 then some (4, 1, 6) else if c = 4 then some (2, 0, mtu6of r a b n) else none
theorem and65535 (r : Int) (hr : 0 ≤ r) (hr' : r < 4294967296) : bits .and .u32 r 65535 = r % 65536 :=
  bits_mask .u32 32 (by decide) (fun n h0 h1 => by rw [IntKind.wrap_u32]; omega) 16 (by decide) r hr (by omega)

theorem said_small (k c r : Int) (d : ByteArray) (x y z : Int) (w : World) (h0 : 0 ≤ z) (h1 : z < 4294967296) :
    Calls Try.prog 19 #[.agg #[.int .i64 k, .int .i64 c, .int .u32 r, .string d], .int .i64 x, .int .i64 y, .int .i64 z] w fun e w' => e = .returned (.tuple #[.agg #[.int .i64 x, .int .i64 y, .int .u32 z, .string d], .bool true]) ∧ Below w.heap.size w w' := by
  have h := said_any k c r d x y z w
  rw [Int.emod_eq_of_lt h0 h1] at h
  exact h
theorem ret_v {z y : Int} {d : ByteArray} (h : z = y) : Ending.returned (.tuple #[.agg #[.int .i64 2, .int .i64 0, .int .u32 y, .string d], .bool true]) = .returned (retM (some (2, 0, z)) d) := by rw [h]; rfl

set_option maxHeartbeats 4000000 in
theorem lost6_mtu0 (k r : Int) (d : ByteArray) (a b n p : Int) (w : World) (hs : Sides a b) (hb : bits .and .u32 r 65535 = 0) 
    (c14 : ∀ w, Calls Try.prog 14 #[.int .i64 n] w fun e w' => e = .returned (.int .i64 p) ∧ Below w.heap.size w w') (hp : 68 ≤ p ∧ p ≤ 65535) (z : Int) (hz : z = least6 p a b) :
    Calls Try.prog 20 #[msgV k 4 r d, .int .i64 a, .int .i64 b, .int .i64 n] w fun e w' => e = .returned (retM (some (2, 0, z)) d) ∧ Below w.heap.size w w' := by
  obtain ⟨h1, h2, h3, h4⟩ := hs
  unfold least6 at hz
  by_cases t1 : b < p + 20
  · rw [if_pos t1] at hz
    by_cases t2 : a + 20 < b
    · rw [if_pos t2] at hz
      by_cases t3 : a + 20 < 1280
      · rw [if_pos t3] at hz
        have hz' := Lib.hid hz
        clear hz
        go_enter Try.func20, Try.ntmps20
        go_wp2_with (first | (go_at_call 19; (with_reducible refine (said_small _ _ _ _ _ _ _ _ (by omega) (by omega)).mono ?_); rintro e w2 ⟨rfl, hb2⟩; obtain ⟨hc2, hf2⟩ := bcell hb2) | (go_at_call 14; (with_reducible refine (c14 _).mono ?_); rintro e w1 ⟨rfl, hb1⟩; obtain ⟨hc1, hf1⟩ := bcell hb1; have hz1 : w.heap.size + 1 < w1.heap.size := by have := hb1.size; simp at this; omega))
        all_goals
          refine bodyPost_ret (v := .tuple #[.agg #[.int .i64 2, .int .i64 0, .int .u32 (1280), .string d], .bool true]) (by simp [results, Try.results20, go_sem, hc2, hc1, hz1]) rfl ⟨ret_v hz'.out, ?_⟩
          have HB1 : Below w.heap.size w w1 := (((Below.refl _ _).alloc (Nat.le_refl _) _).alloc (by simp) _).trans (hb1.mono (by simp; omega))
          have HB2 : Below w.heap.size w w2 := HB1.trans (hb2.mono HB1.size)
          go_grown
      · rw [if_neg t3] at hz
        have hz' := Lib.hid hz
        clear hz
        go_enter Try.func20, Try.ntmps20
        go_wp2_with (first | (go_at_call 19; (with_reducible refine (said_small _ _ _ _ _ _ _ _ (by omega) (by omega)).mono ?_); rintro e w2 ⟨rfl, hb2⟩; obtain ⟨hc2, hf2⟩ := bcell hb2) | (go_at_call 14; (with_reducible refine (c14 _).mono ?_); rintro e w1 ⟨rfl, hb1⟩; obtain ⟨hc1, hf1⟩ := bcell hb1; have hz1 : w.heap.size + 1 < w1.heap.size := by have := hb1.size; simp at this; omega))
        all_goals
          refine bodyPost_ret (v := .tuple #[.agg #[.int .i64 2, .int .i64 0, .int .u32 (a + 20), .string d], .bool true]) (by simp [results, Try.results20, go_sem, hc2, hc1, hz1]) rfl ⟨ret_v hz'.out, ?_⟩
          have HB1 : Below w.heap.size w w1 := (((Below.refl _ _).alloc (Nat.le_refl _) _).alloc (by simp) _).trans (hb1.mono (by simp; omega))
          have HB2 : Below w.heap.size w w2 := HB1.trans (hb2.mono HB1.size)
          go_grown
    · rw [if_neg t2] at hz
      by_cases t3 : b < 1280
      · exact absurd t3 (by omega)
      · rw [if_neg t3] at hz
        have hz' := Lib.hid hz
        clear hz
        go_enter Try.func20, Try.ntmps20
        go_wp2_with (first | (go_at_call 19; (with_reducible refine (said_small _ _ _ _ _ _ _ _ (by omega) (by omega)).mono ?_); rintro e w2 ⟨rfl, hb2⟩; obtain ⟨hc2, hf2⟩ := bcell hb2) | (go_at_call 14; (with_reducible refine (c14 _).mono ?_); rintro e w1 ⟨rfl, hb1⟩; obtain ⟨hc1, hf1⟩ := bcell hb1; have hz1 : w.heap.size + 1 < w1.heap.size := by have := hb1.size; simp at this; omega))
        all_goals
          refine bodyPost_ret (v := .tuple #[.agg #[.int .i64 2, .int .i64 0, .int .u32 (b), .string d], .bool true]) (by simp [results, Try.results20, go_sem, hc2, hc1, hz1]) rfl ⟨ret_v hz'.out, ?_⟩
          have HB1 : Below w.heap.size w w1 := (((Below.refl _ _).alloc (Nat.le_refl _) _).alloc (by simp) _).trans (hb1.mono (by simp; omega))
          have HB2 : Below w.heap.size w w2 := HB1.trans (hb2.mono HB1.size)
          go_grown
  · rw [if_neg t1] at hz
    by_cases t2 : a + 20 < p + 20
    · rw [if_pos t2] at hz
      by_cases t3 : a + 20 < 1280
      · rw [if_pos t3] at hz
        have hz' := Lib.hid hz
        clear hz
        go_enter Try.func20, Try.ntmps20
        go_wp2_with (first | (go_at_call 19; (with_reducible refine (said_small _ _ _ _ _ _ _ _ (by omega) (by omega)).mono ?_); rintro e w2 ⟨rfl, hb2⟩; obtain ⟨hc2, hf2⟩ := bcell hb2) | (go_at_call 14; (with_reducible refine (c14 _).mono ?_); rintro e w1 ⟨rfl, hb1⟩; obtain ⟨hc1, hf1⟩ := bcell hb1; have hz1 : w.heap.size + 1 < w1.heap.size := by have := hb1.size; simp at this; omega))
        all_goals
          refine bodyPost_ret (v := .tuple #[.agg #[.int .i64 2, .int .i64 0, .int .u32 (1280), .string d], .bool true]) (by simp [results, Try.results20, go_sem, hc2, hc1, hz1]) rfl ⟨ret_v hz'.out, ?_⟩
          have HB1 : Below w.heap.size w w1 := (((Below.refl _ _).alloc (Nat.le_refl _) _).alloc (by simp) _).trans (hb1.mono (by simp; omega))
          have HB2 : Below w.heap.size w w2 := HB1.trans (hb2.mono HB1.size)
          go_grown
      · rw [if_neg t3] at hz
        have hz' := Lib.hid hz
        clear hz
        go_enter Try.func20, Try.ntmps20
        go_wp2_with (first | (go_at_call 19; (with_reducible refine (said_small _ _ _ _ _ _ _ _ (by omega) (by omega)).mono ?_); rintro e w2 ⟨rfl, hb2⟩; obtain ⟨hc2, hf2⟩ := bcell hb2) | (go_at_call 14; (with_reducible refine (c14 _).mono ?_); rintro e w1 ⟨rfl, hb1⟩; obtain ⟨hc1, hf1⟩ := bcell hb1; have hz1 : w.heap.size + 1 < w1.heap.size := by have := hb1.size; simp at this; omega))
        all_goals
          refine bodyPost_ret (v := .tuple #[.agg #[.int .i64 2, .int .i64 0, .int .u32 (a + 20), .string d], .bool true]) (by simp [results, Try.results20, go_sem, hc2, hc1, hz1]) rfl ⟨ret_v hz'.out, ?_⟩
          have HB1 : Below w.heap.size w w1 := (((Below.refl _ _).alloc (Nat.le_refl _) _).alloc (by simp) _).trans (hb1.mono (by simp; omega))
          have HB2 : Below w.heap.size w w2 := HB1.trans (hb2.mono HB1.size)
          go_grown
    · rw [if_neg t2] at hz
      by_cases t3 : p + 20 < 1280
      · rw [if_pos t3] at hz
        have hz' := Lib.hid hz
        clear hz
        go_enter Try.func20, Try.ntmps20
        go_wp2_with (first | (go_at_call 19; (with_reducible refine (said_small _ _ _ _ _ _ _ _ (by omega) (by omega)).mono ?_); rintro e w2 ⟨rfl, hb2⟩; obtain ⟨hc2, hf2⟩ := bcell hb2) | (go_at_call 14; (with_reducible refine (c14 _).mono ?_); rintro e w1 ⟨rfl, hb1⟩; obtain ⟨hc1, hf1⟩ := bcell hb1; have hz1 : w.heap.size + 1 < w1.heap.size := by have := hb1.size; simp at this; omega))
        all_goals
          refine bodyPost_ret (v := .tuple #[.agg #[.int .i64 2, .int .i64 0, .int .u32 (1280), .string d], .bool true]) (by simp [results, Try.results20, go_sem, hc2, hc1, hz1]) rfl ⟨ret_v hz'.out, ?_⟩
          have HB1 : Below w.heap.size w w1 := (((Below.refl _ _).alloc (Nat.le_refl _) _).alloc (by simp) _).trans (hb1.mono (by simp; omega))
          have HB2 : Below w.heap.size w w2 := HB1.trans (hb2.mono HB1.size)
          go_grown
      · rw [if_neg t3] at hz
        have hz' := Lib.hid hz
        clear hz
        go_enter Try.func20, Try.ntmps20
        go_wp2_with (first | (go_at_call 19; (with_reducible refine (said_small _ _ _ _ _ _ _ _ (by omega) (by omega)).mono ?_); rintro e w2 ⟨rfl, hb2⟩; obtain ⟨hc2, hf2⟩ := bcell hb2) | (go_at_call 14; (with_reducible refine (c14 _).mono ?_); rintro e w1 ⟨rfl, hb1⟩; obtain ⟨hc1, hf1⟩ := bcell hb1; have hz1 : w.heap.size + 1 < w1.heap.size := by have := hb1.size; simp at this; omega))
        all_goals
          refine bodyPost_ret (v := .tuple #[.agg #[.int .i64 2, .int .i64 0, .int .u32 (p + 20), .string d], .bool true]) (by simp [results, Try.results20, go_sem, hc2, hc1, hz1]) rfl ⟨ret_v hz'.out, ?_⟩
          have HB1 : Below w.heap.size w w1 := (((Below.refl _ _).alloc (Nat.le_refl _) _).alloc (by simp) _).trans (hb1.mono (by simp; omega))
          have HB2 : Below w.heap.size w w2 := HB1.trans (hb2.mono HB1.size)
          go_grown

set_option maxHeartbeats 4000000 in
theorem lost6_mtu1 (k r : Int) (d : ByteArray) (a b n m : Int) (w : World) (hs : Sides a b) (hb : bits .and .u32 r 65535 = m) (hm : 0 < m ∧ m < 65536)
    (z : Int) (hz : z = least6 m a b) :
    Calls Try.prog 20 #[msgV k 4 r d, .int .i64 a, .int .i64 b, .int .i64 n] w fun e w' => e = .returned (retM (some (2, 0, z)) d) ∧ Below w.heap.size w w' := by
  obtain ⟨h1, h2, h3, h4⟩ := hs
  unfold least6 at hz
  by_cases t1 : b < m + 20
  · rw [if_pos t1] at hz
    by_cases t2 : a + 20 < b
    · rw [if_pos t2] at hz
      by_cases t3 : a + 20 < 1280
      · rw [if_pos t3] at hz
        have hz' := Lib.hid hz
        clear hz
        go_enter Try.func20, Try.ntmps20
        go_wp2_with (first | (go_at_call 19; (with_reducible refine (said_small _ _ _ _ _ _ _ _ (by omega) (by omega)).mono ?_); rintro e w2 ⟨rfl, hb2⟩; obtain ⟨hc2, hf2⟩ := bcell hb2))
        all_goals
          refine bodyPost_ret (v := .tuple #[.agg #[.int .i64 2, .int .i64 0, .int .u32 (1280), .string d], .bool true]) (by simp [results, Try.results20, go_sem, hc2]) rfl ⟨ret_v hz'.out, ?_⟩
          have HB2 : Below w.heap.size w w2 := (((Below.refl _ _).alloc (Nat.le_refl _) _).alloc (by simp) _).trans (hb2.mono (by simp; omega))
          go_grown
      · rw [if_neg t3] at hz
        have hz' := Lib.hid hz
        clear hz
        go_enter Try.func20, Try.ntmps20
        go_wp2_with (first | (go_at_call 19; (with_reducible refine (said_small _ _ _ _ _ _ _ _ (by omega) (by omega)).mono ?_); rintro e w2 ⟨rfl, hb2⟩; obtain ⟨hc2, hf2⟩ := bcell hb2))
        all_goals
          refine bodyPost_ret (v := .tuple #[.agg #[.int .i64 2, .int .i64 0, .int .u32 (a + 20), .string d], .bool true]) (by simp [results, Try.results20, go_sem, hc2]) rfl ⟨ret_v hz'.out, ?_⟩
          have HB2 : Below w.heap.size w w2 := (((Below.refl _ _).alloc (Nat.le_refl _) _).alloc (by simp) _).trans (hb2.mono (by simp; omega))
          go_grown
    · rw [if_neg t2] at hz
      by_cases t3 : b < 1280
      · exact absurd t3 (by omega)
      · rw [if_neg t3] at hz
        have hz' := Lib.hid hz
        clear hz
        go_enter Try.func20, Try.ntmps20
        go_wp2_with (first | (go_at_call 19; (with_reducible refine (said_small _ _ _ _ _ _ _ _ (by omega) (by omega)).mono ?_); rintro e w2 ⟨rfl, hb2⟩; obtain ⟨hc2, hf2⟩ := bcell hb2))
        all_goals
          refine bodyPost_ret (v := .tuple #[.agg #[.int .i64 2, .int .i64 0, .int .u32 (b), .string d], .bool true]) (by simp [results, Try.results20, go_sem, hc2]) rfl ⟨ret_v hz'.out, ?_⟩
          have HB2 : Below w.heap.size w w2 := (((Below.refl _ _).alloc (Nat.le_refl _) _).alloc (by simp) _).trans (hb2.mono (by simp; omega))
          go_grown
  · rw [if_neg t1] at hz
    by_cases t2 : a + 20 < m + 20
    · rw [if_pos t2] at hz
      by_cases t3 : a + 20 < 1280
      · rw [if_pos t3] at hz
        have hz' := Lib.hid hz
        clear hz
        go_enter Try.func20, Try.ntmps20
        go_wp2_with (first | (go_at_call 19; (with_reducible refine (said_small _ _ _ _ _ _ _ _ (by omega) (by omega)).mono ?_); rintro e w2 ⟨rfl, hb2⟩; obtain ⟨hc2, hf2⟩ := bcell hb2))
        all_goals
          refine bodyPost_ret (v := .tuple #[.agg #[.int .i64 2, .int .i64 0, .int .u32 (1280), .string d], .bool true]) (by simp [results, Try.results20, go_sem, hc2]) rfl ⟨ret_v hz'.out, ?_⟩
          have HB2 : Below w.heap.size w w2 := (((Below.refl _ _).alloc (Nat.le_refl _) _).alloc (by simp) _).trans (hb2.mono (by simp; omega))
          go_grown
      · rw [if_neg t3] at hz
        have hz' := Lib.hid hz
        clear hz
        go_enter Try.func20, Try.ntmps20
        go_wp2_with (first | (go_at_call 19; (with_reducible refine (said_small _ _ _ _ _ _ _ _ (by omega) (by omega)).mono ?_); rintro e w2 ⟨rfl, hb2⟩; obtain ⟨hc2, hf2⟩ := bcell hb2))
        all_goals
          refine bodyPost_ret (v := .tuple #[.agg #[.int .i64 2, .int .i64 0, .int .u32 (a + 20), .string d], .bool true]) (by simp [results, Try.results20, go_sem, hc2]) rfl ⟨ret_v hz'.out, ?_⟩
          have HB2 : Below w.heap.size w w2 := (((Below.refl _ _).alloc (Nat.le_refl _) _).alloc (by simp) _).trans (hb2.mono (by simp; omega))
          go_grown
    · rw [if_neg t2] at hz
      by_cases t3 : m + 20 < 1280
      · rw [if_pos t3] at hz
        have hz' := Lib.hid hz
        clear hz
        go_enter Try.func20, Try.ntmps20
        go_wp2_with (first | (go_at_call 19; (with_reducible refine (said_small _ _ _ _ _ _ _ _ (by omega) (by omega)).mono ?_); rintro e w2 ⟨rfl, hb2⟩; obtain ⟨hc2, hf2⟩ := bcell hb2))
        all_goals
          refine bodyPost_ret (v := .tuple #[.agg #[.int .i64 2, .int .i64 0, .int .u32 (1280), .string d], .bool true]) (by simp [results, Try.results20, go_sem, hc2]) rfl ⟨ret_v hz'.out, ?_⟩
          have HB2 : Below w.heap.size w w2 := (((Below.refl _ _).alloc (Nat.le_refl _) _).alloc (by simp) _).trans (hb2.mono (by simp; omega))
          go_grown
      · rw [if_neg t3] at hz
        have hz' := Lib.hid hz
        clear hz
        go_enter Try.func20, Try.ntmps20
        go_wp2_with (first | (go_at_call 19; (with_reducible refine (said_small _ _ _ _ _ _ _ _ (by omega) (by omega)).mono ?_); rintro e w2 ⟨rfl, hb2⟩; obtain ⟨hc2, hf2⟩ := bcell hb2))
        all_goals
          refine bodyPost_ret (v := .tuple #[.agg #[.int .i64 2, .int .i64 0, .int .u32 (m + 20), .string d], .bool true]) (by simp [results, Try.results20, go_sem, hc2]) rfl ⟨ret_v hz'.out, ?_⟩
          have HB2 : Below w.heap.size w w2 := (((Below.refl _ _).alloc (Nat.le_refl _) _).alloc (by simp) _).trans (hb2.mono (by simp; omega))
          go_grown

theorem lost6_mtu (k r : Int) (d : ByteArray) (a b n : Int) (w : World) (hs : Sides a b) (hr : 0 ≤ r) (hr' : r < 4294967296) :
    Calls Try.prog 20 #[msgV k 4 r d, .int .i64 a, .int .i64 b, .int .i64 n] w fun e w' => e = .returned (retM (some (2, 0, mtu6of r a b n)) d) ∧ Below w.heap.size w w' := by
  have hb := and65535 r hr hr'
  by_cases h0 : r % 65536 = 0
  · exact lost6_mtu0 k r d a b n (pl n) w hs (by rw [hb, h0]) (fun w => plateau_any n w) (pl_range n) _ (by rw [mtu6of, if_pos h0])
  · exact lost6_mtu1 k r d a b n (r % 65536) w hs hb (by omega) _ (by rw [mtu6of, if_neg h0])
end Go.Proofs.Ytcppckpkiloilaa
