/-
  A slice of segments that came in, opened: what its cells hold. Condition: it can be read as data.
-/
import Derived.Test.YtgjgbcakhmphlaaH
import Derived.Deep.SlicePairs
import Derived.WideShapes
import Derived.ChangeArms
namespace Go.Proofs.Ytgjgbcakhmphlaa
open Go.RowKit Go.Deep Go.ChangeShapes Go.WideShapes

/-- The slice's n segments lie there. -/
def SegsAt (w : World) (A : Option Addr) (n : Nat) (six : Nat → Bool) (fl : Nat → Int) : Prop :=
  0 < n → ∃ b off, A = some ⟨b, off, none⟩ ∧ b < w.heap.size ∧ ∀ k, k < n → w.cell? ⟨b, off + k * 2, none⟩ = some (.bool (six k)) ∧ w.cell? ⟨b, off + k * 2 + 1, none⟩ = some (.int .i64 (fl k))

theorem cells27 : Try.prog.cellsOf 27 = 2 := by kernel_rfl
theorem cells4 : Try.prog.cellsOf 4 = 1 := by kernel_rfl

theorem cell_lt {w : World} {a : Addr} {v : Value} (h : w.cell? a = some v) : a.block < w.heap.size := by
  unfold World.cell? at h
  split at h
  · rename_i hb; exact (Array.getElem?_eq_some_iff.1 hb).1
  · cases h

theorem open_segs {H : Type} {enc : TypeId × Value → H} {w : World} {v : Value} {d : DataW H} {p : List MemPlace} {base : Nat} (hv : Value.okWide Try.prog w .any base 22 v)
    (h : DataW.Trod enc Try.prog w 0 (fun _ => true) true 22 v d p) : ∃ A n c six fl, v = .slice A n c ∧ n ≤ c ∧ c ≤ maxLen ∧ SegsAt w A n six fl := by
  obtain ⟨a, len, cap, rfl⟩ := okWide_slice Try.underlying22 hv
  obtain ⟨fuel, hf⟩ := h
  rcases open_slice_pairs Try.underlying22 Try.underlying27 cells27 rfl rfl cells4 cells3 hf with ⟨hcs, _⟩ | ⟨a', len', cap', m, n, V0, V1, D0, D1, P0, P1, hcs, _, hl, hm, hmm, _, hx⟩
  · simp only [Value.cells, List.cons.injEq, Value.slice.injEq, and_true] at hcs
    obtain ⟨rfl, rfl, rfl⟩ := hcs
    exact ⟨none, 0, 0, fun _ => false, fun _ => 0, rfl, Nat.le_refl _, Nat.zero_le _, fun h => absurd h (by omega)⟩
  · simp only [Value.cells, List.cons.injEq, Value.slice.injEq, and_true] at hcs
    obtain ⟨rfl, rfl, rfl⟩ := hcs
    refine ⟨some a', len, cap, fun k => match V0 k with | .bool x => x | _ => false, fun k => match V1 k with | .int .i64 x => x | _ => 0, rfl, hl, hm, fun h0 => ?_⟩
    have hlm : len ≤ m := by rw [hmm]; split <;> omega
    obtain ⟨b, off, spot⟩ := a'
    have h00 := (hx 0 (by omega)).1
    have hspot : spot = none := by simpa [Addr.add] using World.cell?_spot h00
    subst hspot
    refine ⟨b, off, rfl, ?_, fun k hk => ?_⟩
    · have := cell_lt h00
      simpa [Addr.add] using this
    · obtain ⟨c0, c1, t0, t1⟩ := hx k (by omega)
      obtain ⟨x, hx0, _⟩ := DataW.trod_bool Try.underlying4 t0
      obtain ⟨y, hy0, _⟩ := DataW.trod_int Try.underlying3 t1
      simp only [List.cons.injEq, and_true] at hx0 hy0
      rw [add_plain] at c0 c1
      rw [← Nat.add_assoc] at c1
      refine ⟨c0.trans ?_, c1.trans ?_⟩
      · simp only [hx0]
      · simp only [hy0]
end Go.Proofs.Ytgjgbcakhmphlaa
