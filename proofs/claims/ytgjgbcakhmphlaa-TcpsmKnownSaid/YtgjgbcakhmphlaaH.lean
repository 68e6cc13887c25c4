/-
  A run of segments: where a session is behind k of them (st), within the states; the answer of one step. No condition.
-/
import Derived.Test.YtgjgbcakhmphlaaG
import Derived.Deep.RegionHeld3
import Derived.Deep.LoopGhost
namespace Go.Proofs.Ytgjgbcakhmphlaa
open Go.RowKit Go.Maps Go.WideMaps

theorem N_range {s f k : Int} (h0 : 0 ≤ s) (h7 : s ≤ 7) : 0 ≤ (N s f k).1 ∧ (N s f k).1 ≤ 7 := by
  unfold N
  repeat (first | omega | (split))
  all_goals (first | omega | (simp; omega) | simp)
def sd (b : Bool) : Int := if b then 6 else 4
theorem sd_or (b : Bool) : sd b = 4 ∨ sd b = 6 := by cases b <;> simp [sd]
/-- Where a session is behind k segments. -/
def st (s0 : Int) (six : Nat → Bool) (fl : Nat → Int) : Nat → Int
  | 0 => s0
  | k + 1 => (N (st s0 six fl k) (sd (six k)) (kd (fl k))).1
theorem st_range {s0 : Int} (h0 : 0 ≤ s0) (h7 : s0 ≤ 7) (six : Nat → Bool) (fl : Nat → Int) : ∀ k, 0 ≤ st s0 six fl k ∧ st s0 six fl k ≤ 7
  | 0 => ⟨h0, h7⟩
  | k + 1 => N_range (st_range h0 h7 six fl k).1 (st_range h0 h7 six fl k).2

theorem segside_sd (b : Bool) (g : Int) (w : World) : Calls Try.prog 11 #[.agg #[.bool b, .int .i64 g]] w fun e w' => e = .returned (.int .i64 (sd b)) ∧ Below w.heap.size w w' := segside_any b g w

theorem rnext_is' {s f g x l : Int} (h0 : 0 ≤ s) (h7 : s ≤ 7) (hf : f = 4 ∨ f = 6) {k : Int} (hk : kd g = k) (hN : N s f k = (x, l)) (w : World) :
    Calls Try.prog 12 #[.int .i64 s, .int .i64 f, .int .i64 g] w fun e w' => e = .returned (.tuple #[.int .i64 x, .int .i64 l, .bool true]) ∧ Below w.heap.size w w' := by
  have h := rnext_ok s f g w h0 h7 hf
  rw [hk, hN] at h
  exact h.mono fun e w' ⟨he, hw⟩ => ⟨he, by subst hw; exact Below.refl _ _⟩
theorem S_keep {w wx w1 : World} {b o1 o2 : Nat} {u v : Value} (hb : b < w.heap.size) (hb1 : Below wx.heap.size wx w1) (h : wx.cell? ⟨b, o1, none⟩ = some u ∧ wx.cell? ⟨b, o2, none⟩ = some v ∧ Below w.heap.size w wx) :
    w1.cell? ⟨b, o1, none⟩ = some u ∧ w1.cell? ⟨b, o2, none⟩ = some v ∧ Below w.heap.size w w1 :=
  ⟨(hb1.cell (Nat.lt_of_lt_of_le hb h.2.2.size)).trans h.1, (hb1.cell (Nat.lt_of_lt_of_le hb h.2.2.size)).trans h.2.1, h.2.2.trans (hb1.mono h.2.2.size)⟩

set_option maxHeartbeats 2000000 in
theorem runs_round (b off n c : Nat) (six : Nat → Bool) (fl : Nat → Int) (w : World) (hb : b < w.heap.size) (hn : n ≤ 300)
    (h0 : ∀ k, k < n → w.cell? ⟨b, off + k * 2, none⟩ = some (.bool (six k))) (h1 : ∀ k, k < n → w.cell? ⟨b, off + k * 2 + 1, none⟩ = some (.int .i64 (fl k))) :
    Calls Try.prog 3 #[.slice (some ⟨b, off, none⟩) n c] w fun e w' => e = .returned (.bool true) ∧ Below w.heap.size w w' := by
  have H0 := Lib.hid h0
  have H1 := Lib.hid h1
  clear h0 h1
  go_enter Try.func3, Try.ntmps3
  go_wp2
  go_loopw [3, 4, 5] (fun s t i wr => ∃ k : Nat, k ≤ n ∧ i = .int .i64 k ∧ s = .int .i64 (st 0 six fl k) ∧ t = .int .i64 (st 0 six fl k) ∧ Below w.heap.size w wr) (fun _ _ i _ => n - (intOf i).toNat)
  case atStart => exact ⟨0, Nat.zero_le _, rfl, rfl, rfl, Below.refl _ _⟩
  case round =>
    obtain ⟨k, hk, rfl, rfl, rfl, hB⟩ := hrel
    have hB' := Lib.hid hB
    by_cases hlt : k < n
    · have c0 : wr.cell? ⟨b, off + k * 2, none⟩ = some (.bool (six k)) := (hB.cell hb).trans (H0.out k hlt)
      have c1 : wr.cell? ⟨b, off + k * 2 + 1, none⟩ = some (.int .i64 (fl k)) := (hB.cell hb).trans (H1.out k hlt)
      have hs := st_range (s0 := 0) (by omega) (by omega) six fl k
      obtain ⟨s, hse⟩ : ∃ s, st 0 six fl k = s := ⟨_, rfl⟩
      obtain ⟨x, hx⟩ : ∃ x, (N s (sd (six k)) (kd (fl k))).1 = x := ⟨_, rfl⟩
      obtain ⟨l, hl⟩ : ∃ l, (N s (sd (six k)) (kd (fl k))).2 = l := ⟨_, rfl⟩
      have hst : Hid (st 0 six fl (k + 1) = x) := Lib.hid (by show (N (st 0 six fl k) (sd (six k)) (kd (fl k))).1 = x; rw [hse, hx])
      rw [hse] at hs ⊢
      have n10 := fun w => next_is hs.1 hs.2 (sd_or (six k)) rfl (show N s (sd (six k)) (kd (fl k)) = (x, l) by rw [← hx, ← hl]) w
      have n12 := fun w => rnext_is' hs.1 hs.2 (sd_or (six k)) rfl (show N s (sd (six k)) (kd (fl k)) = (x, l) by rw [← hx, ← hl]) w
      clear hse hx hl hB
      go_wp2
      go_region_held3 (fun w' => w'.cell? ⟨b, off + k * 2, none⟩ = some (.bool (six k)) ∧ w'.cell? ⟨b, off + k * 2 + 1, none⟩ = some (.int .i64 (fl k)) ∧ Below w.heap.size w w') (first | exact ⟨c0, c1, hB'.out.drew⟩ | exact S_keep hb hb1 ‹_›)
        (first | (go_at_call 11; (with_reducible refine (segside_sd _ _ _).mono ?_); rintro e w1 ⟨rfl, hb1⟩) | (go_at_call 10; (with_reducible refine (n10 _).mono ?_); rintro e w1 ⟨rfl, hb1⟩))
      have hS := ‹w1.cell? ⟨b, off + k * 2, none⟩ = some (.bool (six k)) ∧ w1.cell? ⟨b, off + k * 2 + 1, none⟩ = some (.int .i64 (fl k)) ∧ Below w.heap.size w w1›
      obtain ⟨d0, d1, dB⟩ := hS
      have dB' := Lib.hid dB
      clear dB c0 c1 hb1
      go_wp2
      go_region_held3 (fun w' => w'.cell? ⟨b, off + k * 2, none⟩ = some (.bool (six k)) ∧ w'.cell? ⟨b, off + k * 2 + 1, none⟩ = some (.int .i64 (fl k)) ∧ Below w.heap.size w w') (first | exact ⟨d0, d1, dB'.out.drew⟩ | exact S_keep hb hb1 ‹_›)
        (first | (go_at_call 11; (with_reducible refine (segside_sd _ _ _).mono ?_); rintro e w2 ⟨rfl, hb1⟩) | (go_at_call 12; (with_reducible refine (n12 _).mono ?_); rintro e w2 ⟨rfl, hb1⟩))
      have hS := ‹w2.cell? ⟨b, off + k * 2, none⟩ = some (.bool (six k)) ∧ w2.cell? ⟨b, off + k * 2 + 1, none⟩ = some (.int .i64 (fl k)) ∧ Below w.heap.size w w2›
      have eB := Lib.hid hS.2.2
      clear hS hb1
      go_wp2
      go_roundw
      case rel => exact ⟨k + 1, by omega, by go_num, by rw [hst.out], by rw [hst.out], eB.out⟩
      case measure => simp [intOf]; omega
    · have hkn : k = n := by omega
      subst hkn
      clear hB
      go_wp2_with (go_at_call 9; (with_reducible refine (wakes_any _).mono ?_); rintro e w2 ⟨rfl, hb2⟩)
      go_ret
      exact ⟨rfl, hB'.out.trans (hb2.mono hB'.out.size)⟩
end Go.Proofs.Ytgjgbcakhmphlaa
