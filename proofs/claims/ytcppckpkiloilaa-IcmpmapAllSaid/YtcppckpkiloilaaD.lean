/-
  Contracts of icmpmap's lost6 and lost4: what they answer, by l6 and l4. Conditions stand in each statement.
-/
import Derived.Test.YtcppckpkiloilaaC
namespace Go.Proofs.Ytcppckpkiloilaa
open Go.RowKit

def l4 (c : Int) : Option (Int × Int × Int) :=
  if c = 0 ∨ c = 2 ∨ c = 3 then some (3, 1, 0) else if c = 1 then some (3, 10, 0) else if c = 4 then some (3, 3, 0) else none
set_option maxHeartbeats 8000000 in
theorem lost6_lit (k c r : Int) (d : ByteArray) (a b n x y z : Int) (w : World) (h : l6 c r a b n = some (x, y, z)) (h4 : c ≠ 4) :
    Calls Try.prog 20 #[msgV k c r d, .int .i64 a, .int .i64 b, .int .i64 n] w fun e w' => e = .returned (.tuple #[.agg #[.int .i64 x, .int .i64 y, .int .u32 z, .string d], .bool true]) ∧ Below w.heap.size w w' := by
  have hc : c = 0 ∨ c = 1 ∨ c = 2 ∨ c = 3 ∨ c = 5 ∨ c = 6 ∨ c = 7 ∨ c = 8 ∨ c = 9 ∨ c = 10 ∨ c = 11 ∨ c = 12 ∨ c = 13 ∨ c = 15 := by
    unfold l6 at h
    (repeat' split at h) <;> first | omega | cases h
  clear h4
  rcases hc with rfl | rfl | rfl | rfl | rfl | rfl | rfl | rfl | rfl | rfl | rfl | rfl | rfl | rfl
  all_goals
    simp [l6] at h
    obtain ⟨rfl, rfl, rfl⟩ := h
    go_enter Try.func20, Try.ntmps20
    go_wp2_with (go_at_call 19; (with_reducible refine (said_small _ _ _ _ _ _ _ _ (by omega) (by omega)).mono ?_); rintro e w2 ⟨rfl, hb2⟩; obtain ⟨hc2, hf2⟩ := bcell hb2)
    refine bodyPost_ret (v := .tuple #[.agg #[.int .i64 _, .int .i64 _, .int .u32 _, .string d], .bool true]) (by simp [results, Try.results20, go_sem, hc2]) rfl ⟨rfl, ?_⟩
    have HB2 : Below w.heap.size w w2 := (((Below.refl _ _).alloc (Nat.le_refl _) _).alloc (by simp) _).trans (hb2.mono (by simp; omega))
    go_grown
set_option maxHeartbeats 8000000 in
theorem lost6_none (k c r : Int) (d : ByteArray) (a b n : Int) (w : World) (h : l6 c r a b n = none) :
    Calls Try.prog 20 #[msgV k c r d, .int .i64 a, .int .i64 b, .int .i64 n] w fun e w' => e = .returned (retM none d) ∧ Below w.heap.size w w' := by
  have hc : c ≠ 0 ∧ c ≠ 1 ∧ c ≠ 2 ∧ c ≠ 3 ∧ c ≠ 4 ∧ c ≠ 5 ∧ c ≠ 6 ∧ c ≠ 7 ∧ c ≠ 8 ∧ c ≠ 9 ∧ c ≠ 10 ∧ c ≠ 11 ∧ c ≠ 12 ∧ c ≠ 13 ∧ c ≠ 15 := by
    unfold l6 at h
    (repeat' split at h) <;> first | omega | cases h
  obtain ⟨n0, n1, n2, n3, n4, n5, n6, n7, n8, n9, n10, n11, n12, n13, n15⟩ := hc
  clear h
  replace n0 : (c == 0) = false := by simpa using n0
  replace n1 : (c == 1) = false := by simpa using n1
  replace n2 : (c == 2) = false := by simpa using n2
  replace n3 : (c == 3) = false := by simpa using n3
  replace n4 : (c == 4) = false := by simpa using n4
  replace n5 : (c == 5) = false := by simpa using n5
  replace n6 : (c == 6) = false := by simpa using n6
  replace n7 : (c == 7) = false := by simpa using n7
  replace n8 : (c == 8) = false := by simpa using n8
  replace n9 : (c == 9) = false := by simpa using n9
  replace n10 : (c == 10) = false := by simpa using n10
  replace n11 : (c == 11) = false := by simpa using n11
  replace n12 : (c == 12) = false := by simpa using n12
  replace n13 : (c == 13) = false := by simpa using n13
  replace n15 : (c == 15) = false := by simpa using n15
  go_enter Try.func20, Try.ntmps20
  go_wp2
  refine bodyPost_ret (v := retM none d) (by simp [results, Try.results20, go_sem, retM]) rfl ⟨rfl, ?_⟩
  go_grown
theorem lost6_any (k c r : Int) (d : ByteArray) (a b n : Int) (w : World) (hs : Sides a b) (hr : 0 ≤ r) (hr' : r < 4294967296) :
    Calls Try.prog 20 #[msgV k c r d, .int .i64 a, .int .i64 b, .int .i64 n] w fun e w' => e = .returned (retM (l6 c r a b n) d) ∧ Below w.heap.size w w' := by
  by_cases h4 : c = 4
  · subst h4; exact lost6_mtu k r d a b n w hs hr hr'
  · cases h : l6 c r a b n with
    | none => exact lost6_none k c r d a b n w h
    | some p => obtain ⟨x, y, z⟩ := p; exact lost6_lit k c r d a b n x y z w h h4
set_option maxHeartbeats 8000000 in
theorem lost4_any (k c r : Int) (d : ByteArray) (w : World) : Calls Try.prog 22 #[msgV k c r d] w fun e w' => e = .returned (retM (l4 c) d) ∧ Below w.heap.size w w' := by
  have hc : c = 0 ∨ c = 1 ∨ c = 2 ∨ c = 3 ∨ c = 4 ∨ (c ≠ 0 ∧ c ≠ 1 ∧ c ≠ 2 ∧ c ≠ 3 ∧ c ≠ 4) := by omega
  obtain ⟨v, hv⟩ : ∃ v, retM (l4 c) d = v := ⟨_, rfl⟩
  rw [hv]
  rcases hc with rfl | rfl | rfl | rfl | rfl | ⟨n0, n1, n2, n3, n4⟩
  iterate 5
    · simp [l4, retM] at hv
      subst hv
      go_enter Try.func22, Try.ntmps22
      go_wp2_with (go_at_call 19; (with_reducible refine (said_small _ _ _ _ _ _ _ _ (by omega) (by omega)).mono ?_); rintro e w2 ⟨rfl, hb2⟩; obtain ⟨hc2, hf2⟩ := bcell hb2)
      refine bodyPost_ret (by simp [results, Try.results22, go_sem, hc2]) rfl ⟨rfl, ?_⟩
      have HB2 : Below w.heap.size w w2 := (((Below.refl _ _).alloc (Nat.le_refl _) _).alloc (by simp) _).trans (hb2.mono (by simp; omega))
      go_grown
  · rw [l4, if_neg (by omega), if_neg (by omega), if_neg (by omega)] at hv
    subst hv
    replace n0 : (c == 0) = false := by simpa using n0
    replace n1 : (c == 1) = false := by simpa using n1
    replace n2 : (c == 2) = false := by simpa using n2
    replace n3 : (c == 3) = false := by simpa using n3
    replace n4 : (c == 4) = false := by simpa using n4
    go_enter Try.func22, Try.ntmps22
    go_wp2
    refine bodyPost_ret (v := retM none d) (by simp [results, Try.results22, go_sem, retM]) rfl ⟨rfl, ?_⟩
    go_grown
end Go.Proofs.Ytcppckpkiloilaa
