/-
  The walk of the law TcpsmTwins: it returns true, and what was there stays. Condition: the segments lie where the slice says.
-/
import Derived.Test.YtgjgbcakhmphlaaS
namespace Go.Proofs.Ytgjgbcakhmphlaa
open Go.RowKit Go.Maps Go.WideMaps

/-- The state with the sides changed. -/
def tw (s : Int) : Int := if s = 4 then 5 else if s = 5 then 4 else s
theorem N_twin {s f k : Int} (h : 3 ≤ s ∧ s ≤ 7) (hf : f = 4 ∨ f = 6) (hk : k = 0 ∨ k = 1 ∨ k = 2 ∨ k = 4) :
    N (tw s) (10 - f) k = (tw (N s f k).1, (N s f k).2) ∧ 3 ≤ (N s f k).1 ∧ (N s f k).1 ≤ 7 := by
  have hs : s = 3 ∨ s = 4 ∨ s = 5 ∨ s = 6 ∨ s = 7 := by omega
  rcases hs with rfl | rfl | rfl | rfl | rfl <;> rcases hf with rfl | rfl <;> rcases hk with rfl | rfl | rfl | rfl <;> decide
theorem tw_range {s : Int} (h : 3 ≤ s ∧ s ≤ 7) : 0 ≤ tw s ∧ tw s ≤ 7 := by unfold tw; repeat (first | omega | split)

set_option maxHeartbeats 400000 in
theorem twins_big (A : Option Addr) (n c : Nat) (w : World) (h : 300 < n) : Calls Try.prog 6 #[.slice A n c] w fun e w' => e = .returned (.bool true) ∧ Below w.heap.size w w' := by
  have h' : (300 : Int) < (n : Int) := by omega
  go_enter Try.func6, Try.ntmps6
  go_wp2_with (go_at_call 9; (with_reducible refine (wakes_any _).mono ?_); rintro e w2 ⟨rfl, hb2⟩)
  go_ret
  exact ⟨rfl, hb2⟩
set_option maxHeartbeats 400000 in
theorem twins_zero (A : Option Addr) (c : Nat) (w : World) : Calls Try.prog 6 #[.slice A 0 c] w fun e w' => e = .returned (.bool true) ∧ Below w.heap.size w w' := by
  go_enter Try.func6, Try.ntmps6
  go_wp2
  refine wp_loop_rounds 1 ?_
  rw [rounds_succ]
  go_wp2_with (go_at_call 9; (with_reducible refine (wakes_any _).mono ?_); rintro e w2 ⟨rfl, hb2⟩)
  go_ret
  exact ⟨rfl, hb2⟩

theorem st3_range (six : Nat → Bool) (fl : Nat → Int) : ∀ k, 3 ≤ st 3 six fl k ∧ st 3 six fl k ≤ 7
  | 0 => ⟨by simp [st], by simp [st]⟩
  | k + 1 => (N_twin (st3_range six fl k) (sd_or _) (kd_four _)).2

set_option maxHeartbeats 2000000 in
theorem twins_round (b off n c : Nat) (six : Nat → Bool) (fl : Nat → Int) (w : World) (hb : b < w.heap.size) (hn : n ≤ 300)
    (h0 : ∀ k, k < n → w.cell? ⟨b, off + k * 2, none⟩ = some (.bool (six k))) (h1 : ∀ k, k < n → w.cell? ⟨b, off + k * 2 + 1, none⟩ = some (.int .i64 (fl k))) :
    Calls Try.prog 6 #[.slice (some ⟨b, off, none⟩) n c] w fun e w' => e = .returned (.bool true) ∧ Below w.heap.size w w' := by
  have H0 := Lib.hid h0
  have H1 := Lib.hid h1
  clear h0 h1
  go_enter Try.func6, Try.ntmps6
  go_wp2
  go_loopw [3, 4, 5] (fun s t i wr => ∃ k : Nat, k ≤ n ∧ i = .int .i64 k ∧ s = .int .i64 (st 3 six fl k) ∧ t = .int .i64 (tw (st 3 six fl k)) ∧ Below w.heap.size w wr) (fun _ _ i _ => n - (intOf i).toNat)
  case atStart => exact ⟨0, Nat.zero_le _, rfl, rfl, rfl, Below.refl _ _⟩
  case round =>
    obtain ⟨k, hk, rfl, rfl, rfl, hB⟩ := hrel
    have hB' := Lib.hid hB
    by_cases hlt : k < n
    · have c0 : wr.cell? ⟨b, off + k * 2, none⟩ = some (.bool (six k)) := (hB.cell hb).trans (H0.out k hlt)
      have c1 : wr.cell? ⟨b, off + k * 2 + 1, none⟩ = some (.int .i64 (fl k)) := (hB.cell hb).trans (H1.out k hlt)
      have hs := st3_range six fl k
      obtain ⟨s, hse⟩ : ∃ s, st 3 six fl k = s := ⟨_, rfl⟩
      have hN := N_twin (s := s) (f := sd (six k)) (k := kd (fl k)) (by rw [← hse]; exact hs) (sd_or _) (kd_four _)
      obtain ⟨x, hx⟩ : ∃ x, (N s (sd (six k)) (kd (fl k))).1 = x := ⟨_, rfl⟩
      obtain ⟨l, hl⟩ : ∃ l, (N s (sd (six k)) (kd (fl k))).2 = l := ⟨_, rfl⟩
      have hst : Hid (st 3 six fl (k + 1) = x) := Lib.hid (by show (N (st 3 six fl k) (sd (six k)) (kd (fl k))).1 = x; rw [hse, hx])
      rw [hse] at hs ⊢
      have n10 := fun w => next_is (by omega) hs.2 (sd_or (six k)) rfl (show N s (sd (six k)) (kd (fl k)) = (x, l) by rw [← hx, ← hl]) w
      have hr := tw_range hs
      rw [hx, hl] at hN
      obtain ⟨y, hy⟩ : ∃ y, tw x = y := ⟨_, rfl⟩
      rw [hy] at hN
      have hw : IntKind.i64.wrap (10 - sd (six k)) = 10 - sd (six k) := IntWalk.i64_in _ (by have := sd_or (six k); omega)
      have m10 := fun w => next_is (g := fl k) hr.1 hr.2 (f := IntKind.i64.wrap (10 - sd (six k))) (by rw [hw]; have := sd_or (six k); omega) rfl (hw.symm ▸ hN.1) w
      have hsd : 4 ≤ sd (six k) ∧ sd (six k) ≤ 6 := by have := sd_or (six k); omega
      have hx37 : x = 3 ∨ x = 4 ∨ x = 5 ∨ x = 6 ∨ x = 7 := by have := hN.2; omega
      clear hse hx hl hB hN hr hs hw
      generalize tw s = t at *
      go_wp2
      go_region_held3 (fun w' => w'.cell? ⟨b, off + k * 2, none⟩ = some (.bool (six k)) ∧ w'.cell? ⟨b, off + k * 2 + 1, none⟩ = some (.int .i64 (fl k)) ∧ Below w.heap.size w w') (first | exact ⟨c0, c1, hB'.out.drew⟩ | exact S_keep hb hb1 ‹_›)
        (first | (go_at_call 11; (with_reducible refine (segside_sd _ _ _).mono ?_); rintro e w1 ⟨rfl, hb1⟩) | (go_at_call 10; (with_reducible refine (n10 _).mono ?_); rintro e w1 ⟨rfl, hb1⟩))
      have hS := ‹w1.cell? ⟨b, off + k * 2, none⟩ = some (.bool (six k)) ∧ w1.cell? ⟨b, off + k * 2 + 1, none⟩ = some (.int .i64 (fl k)) ∧ Below w.heap.size w w1›
      obtain ⟨d0, d1, dB⟩ := hS
      have dB' := Lib.hid dB
      clear dB c0 c1 hb1
      go_wp2
      go_region_held3 (fun w' => w'.cell? ⟨b, off + k * 2, none⟩ = some (.bool (six k)) ∧ w'.cell? ⟨b, off + k * 2 + 1, none⟩ = some (.int .i64 (fl k)) ∧ Below w.heap.size w w') (first | exact ⟨d0, d1, dB'.out.drew⟩ | exact S_keep hb hb1 ‹_›)
        (first | (go_at_call 11; (with_reducible refine (segside_sd _ _ _).mono ?_); rintro e w2 ⟨rfl, hb1⟩) | (go_at_call 10; (with_reducible refine (m10 _).mono ?_); rintro e w2 ⟨rfl, hb1⟩))
      have hS := ‹w2.cell? ⟨b, off + k * 2, none⟩ = some (.bool (six k)) ∧ w2.cell? ⟨b, off + k * 2 + 1, none⟩ = some (.int .i64 (fl k)) ∧ Below w.heap.size w w2›
      have eB := Lib.hid hS.2.2
      clear hS hb1
      rcases hx37 with rfl | rfl | rfl | rfl | rfl
      all_goals
        simp [tw] at hy
        subst hy
        go_wp2
        go_roundw
        case rel => exact ⟨k + 1, by omega, by go_num, by rw [hst.out], by rw [hst.out]; rfl, eB.out⟩
        case measure => simp [intOf]; omega
    · have hkn : k = n := by omega
      subst hkn
      clear hB
      go_wp2_with (go_at_call 9; (with_reducible refine (wakes_any _).mono ?_); rintro e w2 ⟨rfl, hb2⟩)
      go_ret
      exact ⟨rfl, hB'.out.trans (hb2.mono hB'.out.size)⟩

theorem twins_walk (A : Option Addr) (n c : Nat) (six : Nat → Bool) (fl : Nat → Int) (w : World) (hs : SegsAt w A n six fl) :
    Calls Try.prog 6 #[.slice A n c] w fun e w' => e = .returned (.bool true) ∧ Below w.heap.size w w' := by
  by_cases hb : 300 < n
  · exact twins_big A n c w hb
  · by_cases h0 : n = 0
    · subst h0; exact twins_zero A c w
    · obtain ⟨b, off, rfl, hlt, hk⟩ := hs (by omega)
      exact twins_round b off n c six fl w hlt (by omega) (fun k h => (hk k h).1) (fun k h => (hk k h).2)
end Go.Proofs.Ytgjgbcakhmphlaa
