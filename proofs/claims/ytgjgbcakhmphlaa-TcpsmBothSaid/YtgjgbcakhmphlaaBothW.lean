/-
  The walk of the law TcpsmBoth: it returns true, and what was there stays. Condition: the segments lie where the slice says.
-/
import Derived.Test.YtgjgbcakhmphlaaS
namespace Go.Proofs.Ytgjgbcakhmphlaa
open Go.RowKit Go.Maps Go.WideMaps
set_option linter.unusedSimpArgs false

def bi (b : Bool) : Int := if b then 1 else 0
/-- Has a Syn come of the 4 side, of the 6 side, among the first k segments? -/
def syn4 (six : Nat → Bool) (fl : Nat → Int) : Nat → Bool
  | 0 => false
  | k + 1 => if kd (fl k) = 2 then syn4 six fl k || !six k else syn4 six fl k
def syn6 (six : Nat → Bool) (fl : Nat → Int) : Nat → Bool
  | 0 => false
  | k + 1 => if kd (fl k) = 2 then syn6 six fl k || six k else syn6 six fl k
def Fit2 (s : Int) (b4 b6 : Bool) : Prop := (3 ≤ s → bi b4 = 1 ∧ bi b6 = 1) ∧ (s = 1 → bi b4 = 1) ∧ (s = 2 → bi b6 = 1)

theorem both_step {s k : Int} {b4 b6 q : Bool} (h0 : 0 ≤ s) (h7 : s ≤ 7) (hk : k = 0 ∨ k = 1 ∨ k = 2 ∨ k = 4) (h : Fit2 s b4 b6) :
    (s ≠ 0 → (N s (sd q) k).1 ≠ 0) ∧ (s = 6 → (N s (sd q) k).1 = 6) ∧ Fit2 (N s (sd q) k).1 (if k = 2 then b4 || !q else b4) (if k = 2 then b6 || q else b6) := by
  have hs : s = 0 ∨ s = 1 ∨ s = 2 ∨ s = 3 ∨ s = 4 ∨ s = 5 ∨ s = 6 ∨ s = 7 := by omega
  unfold Fit2 bi at *
  rcases hs with rfl | rfl | rfl | rfl | rfl | rfl | rfl | rfl <;> rcases hk with rfl | rfl | rfl | rfl <;> cases q <;> cases b4 <;> cases b6 <;> simp_all [N, sd]

theorem both_fit (six : Nat → Bool) (fl : Nat → Int) : ∀ k, Fit2 (st 0 six fl k) (syn4 six fl k) (syn6 six fl k)
  | 0 => by simp [Fit2, st]
  | k + 1 => by
    have hr := st_range (s0 := 0) (by omega) (by omega) six fl k
    exact (both_step hr.1 hr.2 (kd_four _) (both_fit six fl k)).2.2

set_option maxHeartbeats 400000 in
theorem both_big (A : Option Addr) (n c : Nat) (w : World) (h : 300 < n) : Calls Try.prog 4 #[.slice A n c] w fun e w' => e = .returned (.bool true) ∧ Below w.heap.size w w' := by
  have h' : (300 : Int) < (n : Int) := by omega
  go_enter Try.func4, Try.ntmps4
  go_wp2_with (go_at_call 9; (with_reducible refine (wakes_any _).mono ?_); rintro e w2 ⟨rfl, hb2⟩)
  go_ret
  exact ⟨rfl, hb2⟩
set_option maxHeartbeats 400000 in
theorem both_zero (A : Option Addr) (c : Nat) (w : World) : Calls Try.prog 4 #[.slice A 0 c] w fun e w' => e = .returned (.bool true) ∧ Below w.heap.size w w' := by
  go_enter Try.func4, Try.ntmps4
  go_wp2
  refine wp_loop_rounds 1 ?_
  rw [rounds_succ]
  go_wp2_with (go_at_call 9; (with_reducible refine (wakes_any _).mono ?_); rintro e w2 ⟨rfl, hb2⟩)
  go_ret
  exact ⟨rfl, hb2⟩

theorem bi_t : bi true = 1 := rfl
theorem bi_f : bi false = 0 := rfl

set_option maxRecDepth 100000 in
set_option maxHeartbeats 40000000 in
theorem both_round (b off n c : Nat) (six : Nat → Bool) (fl : Nat → Int) (w : World) (hb : b < w.heap.size) (hn : n ≤ 300)
    (h0 : ∀ k, k < n → w.cell? ⟨b, off + k * 2, none⟩ = some (.bool (six k))) (h1 : ∀ k, k < n → w.cell? ⟨b, off + k * 2 + 1, none⟩ = some (.int .i64 (fl k))) :
    Calls Try.prog 4 #[.slice (some ⟨b, off, none⟩) n c] w fun e w' => e = .returned (.bool true) ∧ Below w.heap.size w w' := by
  have H0 := Lib.hid h0
  have H1 := Lib.hid h1
  clear h0 h1
  go_enter Try.func4, Try.ntmps4
  go_wp2
  go_loopw [3, 4, 5, 6] (fun s f t i wr => ∃ k : Nat, k ≤ n ∧ i = .int .i64 k ∧ s = .int .i64 (st 0 six fl k) ∧ f = .bool (syn4 six fl k) ∧ t = .bool (syn6 six fl k) ∧ Below w.heap.size w wr) (fun _ _ _ i _ => n - (intOf i).toNat)
  case atStart => exact ⟨0, Nat.zero_le _, rfl, rfl, rfl, rfl, Below.refl _ _⟩
  case round =>
    obtain ⟨k, hk, rfl, rfl, rfl, rfl, hB⟩ := hrel
    have hB' := Lib.hid hB
    by_cases hlt : k < n
    · have c0 : wr.cell? ⟨b, off + k * 2, none⟩ = some (.bool (six k)) := (hB.cell hb).trans (H0.out k hlt)
      have c1 : wr.cell? ⟨b, off + k * 2 + 1, none⟩ = some (.int .i64 (fl k)) := (hB.cell hb).trans (H1.out k hlt)
      have hs := st_range (s0 := 0) (by omega) (by omega) six fl k
      have hF := both_fit six fl k
      obtain ⟨s, hse⟩ : ∃ s, st 0 six fl k = s := ⟨_, rfl⟩
      obtain ⟨q, hq⟩ : ∃ q, six k = q := ⟨_, rfl⟩
      obtain ⟨kk, hkk⟩ : ∃ kk, kd (fl k) = kk := ⟨_, rfl⟩
      obtain ⟨b4, hb4⟩ : ∃ x, syn4 six fl k = x := ⟨_, rfl⟩
      obtain ⟨b6, hb6⟩ : ∃ x, syn6 six fl k = x := ⟨_, rfl⟩
      rw [hse, hb4, hb6] at hF
      rw [hse] at hs
      have h4 := kd_four (fl k)
      rw [hkk] at h4
      have hstep := both_step (q := q) hs.1 hs.2 h4 hF
      obtain ⟨x, hx⟩ : ∃ x, (N s (sd q) kk).1 = x := ⟨_, rfl⟩
      obtain ⟨l, hl⟩ : ∃ l, (N s (sd q) kk).2 = l := ⟨_, rfl⟩
      have hst : Hid (st 0 six fl (k + 1) = x) := Lib.hid (by show (N (st 0 six fl k) (sd (six k)) (kd (fl k))).1 = x; rw [hse, hq, hkk, hx])
      have hs4 : Hid (syn4 six fl (k + 1) = if kk = 2 then b4 || !q else b4) := Lib.hid (by show (if kd (fl k) = 2 then syn4 six fl k || !six k else syn4 six fl k) = _; rw [hkk, hb4, hq])
      have hs6 : Hid (syn6 six fl (k + 1) = if kk = 2 then b6 || q else b6) := Lib.hid (by show (if kd (fl k) = 2 then syn6 six fl k || six k else syn6 six fl k) = _; rw [hkk, hb6, hq])
      rw [hse, hb4, hb6]
      rw [hq] at c0
      rw [hx] at hstep
      have n10 := fun w => next_is hs.1 hs.2 (sd_or q) hkk (show N s (sd q) kk = (x, l) by rw [← hx, ← hl]) w
      have n13 := fun w => kind_is hkk w
      have hF' := Lib.hid hF
      have hstep' := Lib.hid hstep
      clear hse hx hl hB hq hkk hb4 hb6 hF hstep
      go_wp2
      go_region_held3 (fun w' => w'.cell? ⟨b, off + k * 2, none⟩ = some (.bool q) ∧ w'.cell? ⟨b, off + k * 2 + 1, none⟩ = some (.int .i64 (fl k)) ∧ Below w.heap.size w w') (first | exact ⟨c0, c1, hB'.out.drew⟩ | exact S_keep hb hb1 ‹_›)
        (first | (go_at_call 11; (with_reducible refine (segside_sd _ _ _).mono ?_); rintro e w1 ⟨rfl, hb1⟩) | (go_at_call 10; (with_reducible refine (n10 _).mono ?_); rintro e w1 ⟨rfl, hb1⟩))
      have hS := ‹w1.cell? ⟨b, off + k * 2, none⟩ = some (.bool q) ∧ w1.cell? ⟨b, off + k * 2 + 1, none⟩ = some (.int .i64 (fl k)) ∧ Below w.heap.size w w1›
      obtain ⟨d0, d1, dB⟩ := hS
      have dB' := Lib.hid dB
      clear dB c0 c1 hb1 n10
      have hcs : (s = 0) ∨ (s = 6 ∧ x = 6) ∨ (s ≠ 0 ∧ s ≠ 6 ∧ x ≠ 0) := by
        by_cases e0 : s = 0
        · exact .inl e0
        · by_cases e6 : s = 6
          · exact .inr (.inl ⟨e6, hstep'.out.2.1 e6⟩)
          · exact .inr (.inr ⟨e0, e6, hstep'.out.1 e0⟩)
      have hcx : x = 0 ∨ x = 1 ∨ x = 2 ∨ 3 ≤ x := by
        have hN := N_range (f := sd q) (k := kk) hs.1 hs.2
        have := hst.out
        have hr := st_range (s0 := 0) (by omega) (by omega) six fl (k + 1)
        omega
      have hF1 := hF'.out.1
      have hF2 := hF'.out.2.1
      have hF3 := hF'.out.2.2
      have hG1 := hstep'.out.2.2.1
      have hG2 := hstep'.out.2.2.2.1
      have hG3 := hstep'.out.2.2.2.2
      have bt := bi_t
      have bf := bi_f
      clear hF' hstep'
      rcases hcx with rfl | rfl | rfl | hx3 <;> rcases hcs with rfl | ⟨rfl, hx6⟩ | ⟨hs0, hs6, hx0⟩ <;> (try subst hx6) <;> by_cases hk2 : kk = 2 <;> cases b4 <;> cases b6 <;> cases q
      all_goals (first | (exfalso; (try replace hG2 := hG2 rfl); (try replace hG3 := hG3 rfl); (try simp only [hk2, if_true, if_false, Bool.or_true, Bool.or_false, Bool.not_true, Bool.not_false] at hG1); (try simp only [hk2, if_true, if_false, Bool.or_true, Bool.or_false, Bool.not_true, Bool.not_false] at hG2); (try simp only [hk2, if_true, if_false, Bool.or_true, Bool.or_false, Bool.not_true, Bool.not_false] at hG3); omega) | skip)
      all_goals as_aux_lemma =>
        clear hF1 hF2 hF3 hG1 hG2 hG3 bt bf
        try (have e0 : (x == 0) = false := by simp; omega)
        try (have e1 : (x == 1) = false := by simp; omega)
        try (have e2 : (x == 2) = false := by simp; omega)
        try (have t0 : (s != 0) = true := by simp; omega)
        try (have t6 : (s == 6) = false := by simp; omega)
        first | (have ek : (kk == 2) = true := by simp [hk2]) | (have ek : (kk == 2) = false := by simp [hk2])
        have hk2' := Lib.hid hk2
        clear hk2
        go_wp2_with (go_at_call 13; (with_reducible refine (n13 _).mono ?_); rintro e w2 ⟨rfl, rfl⟩)
        go_roundw
        case rel => exact ⟨k + 1, by omega, by go_num, by rw [hst.out], by rw [hs4.out]; simp [hk2'.out], by rw [hs6.out]; simp [hk2'.out], dB'.out⟩
        case measure => simp [intOf]; omega
    · have hkn : k = n := by omega
      subst hkn
      clear hB
      go_wp2_with (go_at_call 9; (with_reducible refine (wakes_any _).mono ?_); rintro e w2 ⟨rfl, hb2⟩)
      go_ret
      exact ⟨rfl, hB'.out.trans (hb2.mono hB'.out.size)⟩
end Go.Proofs.Ytgjgbcakhmphlaa
