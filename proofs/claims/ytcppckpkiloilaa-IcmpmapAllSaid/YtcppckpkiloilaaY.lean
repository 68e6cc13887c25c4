/-
  The reference's To6, To4 answer by t6, t4. Condition: the rest is a uint32.
-/
import Derived.Test.YtcppckpkiloilaaP
import Derived.Test.YtcppckpkiloilaaQ
import Derived.Test.YtcppckpkiloilaaS
import Derived.Test.YtcppckpkiloilaaU
import Derived.Test.YtcppckpkiloilaaV
import Derived.Test.YtcppckpkiloilaaX
import Derived.Test.YtcppckpkiloilaaI
namespace Go.Proofs.Ytcppckpkiloilaa
open Go.RowKit
set_option linter.unusedVariables false

theorem bt {k v : Int} (h : k = v) : (k == v) = true := by simp [h]
theorem bf {k v : Int} (h : k ≠ v) : (k == v) = false := by simp [h]
theorem w64 {r : Int} (h0 : -1000 ≤ r) (h1 : r < 4294967296) : IntKind.i64.wrap r = r := by rw [IntKind.wrap_i64]; omega
theorem w32 {r : Int} (h0 : 0 ≤ r) (h1 : r < 4294967296) : IntKind.u32.wrap r = r := by rw [IntKind.wrap_u32]; omega
theorem rto6_any (k c r : Int) (d : ByteArray) (a b n : Int) (w : World) (hr : 0 ≤ r) (hr' : r < 4294967296) :
    Calls Try.prog 15 #[msgV k c r d, .int .i64 a, .int .i64 b, .int .i64 n] w fun e w' => e = .returned (retM (t6 k c r a b n) d) ∧ Below w.heap.size w w' := by
  by_cases hs : Sides a b
  · rw [show t6 k c r a b n = u6 k c r a b n from if_pos hs]
    by_cases hA : k = 3 ∧ c = 4
    · obtain ⟨rfl, rfl⟩ := hA
      rw [show u6 3 4 r a b n = some (2, 0, mtu6of r a b n) from rfl]
      unfold mtu6of
      by_cases h0 : r % 65536 = 0
      · rw [if_pos h0]; exact rto6_mtu0 r d a b n _ w hs hr hr' h0 rfl
      · rw [if_neg h0]; exact rto6_mtu1 r d a b n _ w hs hr hr' rfl (by omega)
    · by_cases hB : k = 12 ∧ (c = 0 ∨ c = 2)
      · have hu : u6 k c r a b n = (p6 (r / 16777216)).map (fun x => (4, 0, x)) := by
          unfold u6
          rw [if_neg (by omega), if_neg (by omega), if_neg (by omega), if_neg (by omega), if_pos hB]
        rw [hu]
        obtain ⟨rfl, hc⟩ := hB
        by_cases h20 : 20 ≤ r / 16777216
        · have hp : p6 (r / 16777216) = none := by
            unfold p6
            rw [if_neg (by omega), if_neg (by omega), if_neg (by omega), if_neg (by omega), if_neg (by omega), if_neg (by omega)]
          rw [hp]
          exact rto6_far c r d a b n _ w hs hr hr' hc rfl h20
        · have hq : r / 16777216 = ((r / 16777216).toNat : Int) := by omega
          have hlt : (r / 16777216).toNat < 20 := by omega
          rw [hq, p6_tp hlt]
          by_cases ht : tp (r / 16777216).toNat < 0
          · rw [if_pos ht]
            exact rto6_no c r d a b n _ w hs hr hr' hc hq (by omega) ht
          · rw [if_neg ht]
            exact rto6_yes c r d a b n _ w hs hr hr' hc hq (by omega) (by omega)
      · have hf := fnd6 k c r a b n hA hB
        have hw := w64 (r := r) (by omega) hr'
        generalize he : u6 k c r a b n = e at hf ⊢
        by_cases k3 : k = 3
        · have hc : c ≠ 4 := fun h => hA ⟨k3, h⟩
          cases e with
          | none => exact rto6_t0 k c r d a b n w hs hw (bt k3) (bf hc) (bf (by omega)) hf
          | some v =>
            obtain ⟨x, y, z⟩ := v
            have hz := fnd6_z hr hr' hf
            exact rto6_t1 k c r x y z d a b n w hs hw (bt k3) (bf hc) (bf (by omega)) hf (w32 hz.1 hz.2)
        · by_cases k12 : k = 12
          · have he0 : u6 k c r a b n = none := by
              unfold u6
              rw [if_neg (by omega), if_neg (by omega), if_neg k3, if_neg (by omega), if_neg hB]
            rw [he0] at he
            subst he
            exact rto6_p0 k c r d a b n w hs hw (bf k3) (bt k12) (bf (fun h => hB ⟨k12, .inl h⟩)) (bf (fun h => hB ⟨k12, .inr h⟩)) hf
          · cases e with
            | none => exact rto6_o0 k c r d a b n w hs hw (bf k3) (bf k12) hf
            | some v =>
              obtain ⟨x, y, z⟩ := v
              have hz := fnd6_z hr hr' hf
              exact rto6_o1 k c r x y z d a b n w hs hw (bf k3) (bf k12) hf (w32 hz.1 hz.2)
  · rw [show t6 k c r a b n = none from if_neg hs]
    exact rto6_sides k c r d a b n w hs
theorem mtu_walk (k c r : Int) (d : ByteArray) (a b : Int) (w : World) (hs : Sides a b) (hr : 0 ≤ r) (hr' : r < 4294967296) (h2 : k = 2) (h0 : c = 0) :
    Calls Try.prog 16 #[msgV k c r d, .int .i64 a, .int .i64 b] w fun e w' => e = .returned (retM (some (3, 4, mtu4of r a b)) d) ∧ Below w.heap.size w w' := by
  have hs' := hs
  obtain ⟨s1, s2, s3, s4⟩ := hs'
  have hw := w64 (r := r) (by omega) hr'
  have hw1 := w64 (r := r - 20) (by omega) (by omega)
  have hw2 := w64 (r := b - 20) (by omega) (by omega)
  unfold mtu4of min4
  by_cases t1 : a < r - 20
  · rw [if_pos t1]
    by_cases t2 : b - 20 < a
    · rw [if_pos t2]
      by_cases t3 : b - 20 < 68
      · omega
      · rw [if_neg t3]; exact rto4_m110 k c r d a b w hs (bt h2) (bt h0) hw hw1 hw2 t1 t2 t3 (by omega) (w32 (by omega) (by omega))
    · rw [if_neg t2]
      by_cases t3 : a < 68
      · omega
      · rw [if_neg t3]; exact rto4_m100 k c r d a b w hs (bt h2) (bt h0) hw hw1 hw2 t1 t2 t3 (by omega) (w32 (by omega) (by omega))
  · rw [if_neg t1]
    by_cases t2 : b - 20 < r - 20
    · rw [if_pos t2]
      by_cases t3 : b - 20 < 68
      · omega
      · rw [if_neg t3]; exact rto4_m010 k c r d a b w hs (bt h2) (bt h0) hw hw1 hw2 t1 t2 t3 (by omega) (w32 (by omega) (by omega))
    · rw [if_neg t2]
      by_cases t3 : r - 20 < 68
      · rw [if_pos t3]; exact rto4_m001 k c r d a b w hs (bt h2) (bt h0) hw hw1 hw2 t1 t2 t3
      · rw [if_neg t3]; exact rto4_m000 k c r d a b w hs (bt h2) (bt h0) hw hw1 hw2 t1 t2 t3 (by omega) (w32 (by omega) (by omega))
theorem ptr_walk (k c r : Int) (d : ByteArray) (a b : Int) (w : World) (hs : Sides a b) (hr : 0 ≤ r) (hr' : r < 4294967296) (h4 : k = 4) (h0 : c = 0) :
    Calls Try.prog 16 #[msgV k c r d, .int .i64 a, .int .i64 b] w fun e w' => e = .returned (retM ((p4 r).map (fun x => (12, 0, x * 16777216))) d) ∧ Below w.heap.size w w' := by
  have hw := w64 (r := r) (by omega) hr'
  have k4 := bt h4
  have k2 := bf (k := k) (v := 2) (by omega)
  have c0 := bt h0
  clear h4 h0
  by_cases r0 : r = 0
  · subst r0; exact rto4_p0 k c d a b w hs k4 k2 c0
  by_cases r1 : r = 1
  · subst r1; exact rto4_p1 k c d a b w hs k4 k2 c0
  have l1 : ¬ r ≤ 1 := by omega
  by_cases r4 : r = 4
  · rw [show p4 r = some 2 by rw [r4]; rfl]; exact rto4_p4 k c r d a b w hs k4 k2 c0 hw l1 (bt r4)
  by_cases r5 : r = 5
  · rw [show p4 r = some 2 by rw [r5]; rfl]; exact rto4_p5 k c r d a b w hs k4 k2 c0 hw l1 (bf r4) (bt r5)
  by_cases r6 : r = 6
  · rw [show p4 r = some 9 by rw [r6]; rfl]; exact rto4_p6 k c r d a b w hs k4 k2 c0 hw l1 (bf r4) (bf r5) (bt r6)
  by_cases r7 : r = 7
  · rw [show p4 r = some 8 by rw [r7]; rfl]; exact rto4_p7 k c r d a b w hs k4 k2 c0 hw l1 (bf r4) (bf r5) (bf r6) (bt r7)
  have hp : p4 r = if 8 ≤ r ∧ r ≤ 23 then some 12 else if 24 ≤ r ∧ r ≤ 39 then some 16 else none := by
    unfold p4; rw [if_neg (by omega), if_neg (by omega), if_neg r6, if_neg r7]
  rw [hp]
  by_cases r8 : 8 ≤ r
  · by_cases r24 : r < 24
    · rw [if_pos (by omega)]; exact rto4_p8 k c r d a b w hs k4 k2 c0 hw l1 (bf r4) (bf r5) (bf r6) (bf r7) r8 r24
    · by_cases r40 : r < 40
      · rw [if_neg (by omega), if_pos (by omega)]; exact rto4_p24 k c r d a b w hs k4 k2 c0 hw l1 (bf r4) (bf r5) (bf r6) (bf r7) r8 r24 (by omega) r40
      · rw [if_neg (by omega), if_neg (by omega)]; exact rto4_pfar k c r d a b w hs k4 k2 c0 hw l1 (bf r4) (bf r5) (bf r6) (bf r7) r8 r24 (by omega) r40
  · rw [if_neg (by omega), if_neg (by omega)]; exact rto4_plow k c r d a b w hs k4 k2 c0 hw l1 (bf r4) (bf r5) (bf r6) (bf r7) r8 (by omega) (by omega)
theorem rto4_any (k c r : Int) (d : ByteArray) (a b : Int) (w : World) (hr : 0 ≤ r) (hr' : r < 4294967296) :
    Calls Try.prog 16 #[msgV k c r d, .int .i64 a, .int .i64 b] w fun e w' => e = .returned (retM (t4 k c r a b) d) ∧ Below w.heap.size w w' := by
  by_cases hs : Sides a b
  · rw [show t4 k c r a b = u4 k c r a b from if_pos hs]
    by_cases hA : k = 2 ∧ c = 0
    · have hu : u4 k c r a b = some (3, 4, mtu4of r a b) := by
        unfold u4
        rw [if_neg (by omega), if_neg (by omega), if_neg (by omega), if_pos hA]
      rw [hu]
      exact mtu_walk k c r d a b w hs hr hr' hA.1 hA.2
    · by_cases hB : k = 4 ∧ c = 0
      · have hu : u4 k c r a b = (p4 r).map (fun x => (12, 0, x * 16777216)) := by
          unfold u4
          rw [if_neg (by omega), if_neg (by omega), if_neg (by omega), if_neg (by omega), if_neg (by omega), if_pos hB]
        rw [hu]
        exact ptr_walk k c r d a b w hs hr hr' hB.1 hB.2
      · have hf : fnd k c (K4 r) = u4 k c r a b := fnd4 k c r a b hA hB
        have hw := w64 (r := r) (by omega) hr'
        generalize he : u4 k c r a b = e at hf ⊢
        by_cases k2 : k = 2
        · have he0 : u4 k c r a b = none := by
            unfold u4
            rw [if_neg (by omega), if_neg (by omega), if_neg (by omega), if_neg hA, if_neg (by omega), if_neg hB, if_neg (by omega)]
          rw [he0] at he
          subst he
          exact rto4_lm0 k c r d a b w hs hw (bt k2) (bf (fun h => hA ⟨k2, h⟩)) (bf (by omega)) hf
        · by_cases k4 : k = 4
          · cases e with
            | none => exact rto4_lp0 k c r d a b w hs hw (bf k2) (bt k4) (bf (fun h => hB ⟨k4, h⟩)) hf
            | some v =>
              obtain ⟨x, y, z⟩ := v
              have hz : 0 ≤ z ∧ z < 4294967296 := fnd4_z hr hr' hf
              exact rto4_lp1 k c r x y z d a b w hs hw (bf k2) (bt k4) (bf (fun h => hB ⟨k4, h⟩)) hf (w32 hz.1 hz.2)
          · cases e with
            | none => exact rto4_lo0 k c r d a b w hs hw (bf k2) (bf k4) hf
            | some v =>
              obtain ⟨x, y, z⟩ := v
              have hz : 0 ≤ z ∧ z < 4294967296 := fnd4_z hr hr' hf
              exact rto4_lo1 k c r x y z d a b w hs hw (bf k2) (bf k4) hf (w32 hz.1 hz.2)
  · rw [show t4 k c r a b = none from if_neg hs]
    exact rto4_sides k c r d a b w hs
theorem rto6_gen {k c r a b n x y z : Int} {d s : ByteArray} {q : Bool} {e : Option (Int × Int × Int)} (hr : 0 ≤ r) (hr' : r < 4294967296) (h : t6 k c r a b n = e) (hx : oK e = x) (hy : oC e = y) (hz : oR e = z) (hs : oS d e = s) (hq : e.isSome = q) (w : World) :
    Calls Try.prog 15 #[msgV k c r d, .int .i64 a, .int .i64 b, .int .i64 n] w fun e w' => e = .returned (.tuple #[.agg #[.int .i64 x, .int .i64 y, .int .u32 z, .string s], .bool q]) ∧ Below w.heap.size w w' := by
  have h1 := rto6_any k c r d a b n w hr hr'
  rw [h, retM_eq, hx, hy, hz, hs, hq] at h1
  exact h1
theorem rto4_gen {k c r a b x y z : Int} {d s : ByteArray} {q : Bool} {e : Option (Int × Int × Int)} (hr : 0 ≤ r) (hr' : r < 4294967296) (h : t4 k c r a b = e) (hx : oK e = x) (hy : oC e = y) (hz : oR e = z) (hs : oS d e = s) (hq : e.isSome = q) (w : World) :
    Calls Try.prog 16 #[msgV k c r d, .int .i64 a, .int .i64 b] w fun e w' => e = .returned (.tuple #[.agg #[.int .i64 x, .int .i64 y, .int .u32 z, .string s], .bool q]) ∧ Below w.heap.size w w' := by
  have h1 := rto4_any k c r d a b w hr hr'
  rw [h, retM_eq, hx, hy, hz, hs, hq] at h1
  exact h1
end Go.Proofs.Ytcppckpkiloilaa
