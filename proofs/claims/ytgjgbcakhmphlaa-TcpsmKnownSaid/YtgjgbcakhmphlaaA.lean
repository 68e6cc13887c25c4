/-
  The keys of tcpsm's map: what a [3]int reads as, and that such keys can be told apart. No condition but that each number fits its kind.
-/
import Derived.Test.YtgjgbcakhmphlaaProg
import Derived.WalkKit
import Derived.WalkSpells
import Derived.WalkLawsBesides
import Derived.KernelRfl
import Derived.DeepKeys4
import Derived.Maps.Own
import Derived.Maps.OwnSet
import Derived.LoopN
namespace Go.Proofs.Ytgjgbcakhmphlaa
open Go.RowKit Go.Maps Go.WideMaps

theorem laidOut : laidOutB Try.prog = true := by kernel_rfl
theorem row41 : (41 : TypeId) < Try.prog.types.size := of_decide_eq_true (by kernel_rfl)
theorem cells41 : Try.prog.cellsOf 41 = 3 := by kernel_rfl
theorem cells3 : Try.prog.cellsOf 3 = 1 := by kernel_rfl
theorem wide41 : (match Try.prog.underlying 41 with | some (.array _ _) | some (.struct _) => true | _ => false) = true := by rw [Try.underlying41]
theorem keyed41 : Keyed Try.prog 41 := Keyed.of_law (deep_law_laid laidOut (m := 2) (by omega) row41 (by kernel_rfl) wide41)
theorem keyType41 : Try.prog.keyType 41 = true := by kernel_rfl
def kl (a b c : Int) : Lit := .string (keyBytes [.int .i64 a, .int .i64 b, .int .i64 c])
theorem formed41 (a b c : Value) : (Value.agg #[a, b, c]).formed Try.prog 41 = true := by simp [Value.formed, Try.underlying41, cells41]
theorem types41 : Try.prog.types.size + 1 = (Try.prog.types.size - 1) + 2 := by kernel_rfl
theorem keyOf41 {a b c : Int} (ha : (Lit.int .i64 a).wf = true) (hb : (Lit.int .i64 b).wf = true) (hc : (Lit.int .i64 c).wf = true) :
    keyOf Try.prog 41 (.agg #[.int .i64 a, .int .i64 b, .int .i64 c]) = some (kl a b c) := by
  unfold keyOf
  rw [Try.underlying41, types41]
  have e : Try.prog.keyLits (Try.prog.types.size - 1 + 2) 41 [.int .i64 a, .int .i64 b, .int .i64 c] = some [.int .i64 a, .int .i64 b, .int .i64 c] := by
    generalize Try.prog.types.size - 1 = n
    simp only [Program.keyLits, Try.underlying41, cells41, cells3]
    simp [List.range_succ, Try.underlying3, ha, hb, hc]
  simp only [keyType41, formed41, Bool.and_self, if_true, Value.cells]
  show (Try.prog.keyLits (Try.prog.types.size - 1 + 2) 41 [.int .i64 a, .int .i64 b, .int .i64 c]).map _ = _
  rw [e]
  rfl
end Go.Proofs.Ytgjgbcakhmphlaa
