/-
  '==' of two messages; the law's awake answers true. Conditions stand in each statement.
-/
import Derived.Test.YtcppckpkiloilaaF
import Derived.Laws.StructEq
namespace Go.Proofs.Ytcppckpkiloilaa
open Go.RowKit

theorem fields26 : Try.prog.fieldsOf 26 = #[{ name := "Kind", type := 3, offset := 0, embedded := false, tag := "", pkgPath := "", byteOffset := 0 }, { name := "Code", type := 3, offset := 1, embedded := false, tag := "", pkgPath := "", byteOffset := 8 }, { name := "Rest", type := 24, offset := 2, embedded := false, tag := "", pkgPath := "", byteOffset := 16 }, { name := "Data", type := 9, offset := 3, embedded := false, tag := "", pkgPath := "", byteOffset := 24 }] := by
  simp [Program.fieldsOf, Try.underlying26]
theorem eq26 (w : World) (k c r k' c' r' : Int) (d d' : ByteArray) :
    (Op.equalIn 10000 26 (.agg #[.int .i64 k, .int .i64 c, .int .u32 r, .string d]) (.agg #[.int .i64 k', .int .i64 c', .int .u32 r', .string d'])).run Try.prog w = .ok (k == k' && (c == c' && (r == r' && d.toList == d'.toList))) w := by
  rw [run_equalIn_agg w 9999 26 _ _ (by rw [fields26]; exact Try.underlying26) (by kernel_rfl), fields26]
  cases h1 : (k == k') <;> cases h2 : (c == c') <;> cases h3 : (r == r') <;> simp [Op.eqFields, go_sem, h1, h2, h3]
  cases h4 : (d.toList == d'.toList)
  · rw [if_neg (by simpa using h4)]
  · rw [if_pos (by simpa using h4)]
theorem to6_is {k c r a b n x y z : Int} {d : ByteArray} (hr : 0 ≤ r) (hr' : r < 4294967296) (h : t6 k c r a b n = some (x, y, z)) (w : World) :
    Calls Try.prog 12 #[msgV k c r d, .int .i64 a, .int .i64 b, .int .i64 n] w fun e w' => e = .returned (.tuple #[.agg #[.int .i64 x, .int .i64 y, .int .u32 z, .string d], .bool true]) ∧ Below w.heap.size w w' := by
  have h1 := to6_any k c r d a b n w hr hr'
  rw [h] at h1
  exact h1
theorem to4_is {k c r a b x y z : Int} {d : ByteArray} (hr : 0 ≤ r) (hr' : r < 4294967296) (h : t4 k c r a b = some (x, y, z)) (w : World) :
    Calls Try.prog 13 #[msgV k c r d, .int .i64 a, .int .i64 b] w fun e w' => e = .returned (.tuple #[.agg #[.int .i64 x, .int .i64 y, .int .u32 z, .string d], .bool true]) ∧ Below w.heap.size w w' := by
  have h1 := to4_any k c r d a b w hr hr'
  rw [h] at h1
  exact h1
theorem to6_not {k c r a b n : Int} {d : ByteArray} (hr : 0 ≤ r) (hr' : r < 4294967296) (h : t6 k c r a b n = none) (w : World) :
    Calls Try.prog 12 #[msgV k c r d, .int .i64 a, .int .i64 b, .int .i64 n] w fun e w' => e = .returned (.tuple #[.agg #[.int .i64 0, .int .i64 0, .int .u32 0, .string ⟨#[]⟩], .bool false]) ∧ Below w.heap.size w w' := by
  have h1 := to6_any k c r d a b n w hr hr'
  rw [h] at h1
  exact h1
theorem to4_not {k c r a b : Int} {d : ByteArray} (hr : 0 ≤ r) (hr' : r < 4294967296) (h : t4 k c r a b = none) (w : World) :
    Calls Try.prog 13 #[msgV k c r d, .int .i64 a, .int .i64 b] w fun e w' => e = .returned (.tuple #[.agg #[.int .i64 0, .int .i64 0, .int .u32 0, .string ⟨#[]⟩], .bool false]) ∧ Below w.heap.size w w' := by
  have h1 := to4_any k c r d a b w hr hr'
  rw [h] at h1
  exact h1
theorem plateau_is {n m : Int} (h : pl n = m) (w : World) : Calls Try.prog 14 #[.int .i64 n] w fun e w' => e = .returned (.int .i64 m) ∧ Below w.heap.size w w' := by
  rw [← h]; exact plateau_any n w

/-- Block g holds just these cells, none frozen. -/
def Blk (w : World) (g : Nat) (cs : Array Value) : Prop := w.heap[g]? = some (.cells cs 26)
theorem Blk.lt {w : World} {g : Nat} {cs : Array Value} (h : Blk w g cs) : g < w.heap.size := (Array.getElem?_eq_some_iff.1 h).1
theorem Blk.new (w : World) (cs : Array Value) : Blk (w.alloc (.cells cs 26)) w.heap.size cs := (MapKept.heap_alloc w _).1
theorem Blk.alloc {w : World} {g : Nat} {cs : Array Value} (h : Blk w g cs) (o : Obj) : Blk (w.alloc o) g cs := (Below.heap_alloc w o g h.lt).trans h
theorem Blk.below {W w' : World} {g : Nat} {cs : Array Value} (h : Blk W g cs) (hb : Below W.heap.size W w') : Blk w' g cs := (hb.block g h.lt).trans h
theorem Blk.cell {w : World} {g : Nat} {cs : Array Value} (h : Blk w g cs) {i : Nat} {v : Value} (hi : cs[i]? = some v) : w.cell? ⟨g, i, none⟩ = some v := by
  unfold World.cell?
  rw [show w.heap[g]? = some (.cells cs 26) from h]
  exact hi
theorem Blk.four {w : World} {g : Nat} {a b c d : Value} (h : Blk w g #[a, b, c, d]) : w.cell? ⟨g, 0, none⟩ = some a ∧ w.cell? ⟨g, 1, none⟩ = some b ∧ w.cell? ⟨g, 2, none⟩ = some c ∧ w.cell? ⟨g, 3, none⟩ = some d :=
  ⟨h.cell rfl, h.cell rfl, h.cell rfl, h.cell rfl⟩

set_option maxHeartbeats 2000000 in
theorem awake_any (w : World) : Calls Try.prog 11 #[] w fun e w' => e = .returned (.bool true) ∧ Below w.heap.size w w' := by
  have c12 := fun w => to6_is (k := 3) (c := 4) (r := 1400) (a := 1500) (b := 1500) (n := 0) (d := ⟨#[]⟩) (x := 2) (y := 0) (z := 1420) (by omega) (by omega) (by decide) w
  have c13 := fun w => to4_is (k := 2) (c := 0) (r := 1280) (a := 1500) (b := 1500) (d := ⟨#[]⟩) (x := 3) (y := 4) (z := 1260) (by omega) (by omega) (by decide) w
  have c14 := fun w => plateau_is (n := 1500) (m := 1492) (by decide) w
  have he := eq26
  go_enter Try.func11, Try.ntmps11
  go_wp2_with (first | (go_at_call 12; (with_reducible refine (c12 _).mono ?_); rintro e w1 ⟨rfl, hb1⟩) | (go_at_call 13; (with_reducible refine (c13 _).mono ?_); rintro e w2 ⟨rfl, hb2⟩; have B1 := (Blk.new _ _).below hb2) | (go_at_call 14; (with_reducible refine (c14 _).mono ?_); rintro e w3 ⟨rfl, hb3⟩; have D1 := (B1.alloc _).below hb3; have D2 := (Blk.new _ _).below hb3; obtain ⟨p0, p1, p2, p3⟩ := D1.four; obtain ⟨q0, q1, q2, q3⟩ := D2.four))
  go_ret
  have HB1 := hb1
  have HB2 : Below w.heap.size w w2 := (HB1.alloc HB1.size _).trans (hb2.mono (by have := HB1.size; simp; omega))
  exact ⟨rfl, (HB2.alloc HB2.size _).trans (hb3.mono (by have := HB2.size; simp; omega))⟩
end Go.Proofs.Ytcppckpkiloilaa
