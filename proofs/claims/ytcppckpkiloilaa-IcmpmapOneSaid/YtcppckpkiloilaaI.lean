/-
  Contracts of To6, To4 with the answer's parts told apart (oK, oC, oR, oS, oB). Condition: the rest is a uint32.
-/
import Derived.Test.YtcppckpkiloilaaG
namespace Go.Proofs.Ytcppckpkiloilaa
open Go.RowKit

def oK : Option (Int × Int × Int) → Int
  | some (x, _, _) => x
  | none => 0
def oC : Option (Int × Int × Int) → Int
  | some (_, y, _) => y
  | none => 0
def oR : Option (Int × Int × Int) → Int
  | some (_, _, z) => z
  | none => 0
def oS (d : ByteArray) : Option (Int × Int × Int) → ByteArray
  | some _ => d
  | none => ⟨#[]⟩
theorem retM_eq (e : Option (Int × Int × Int)) (d : ByteArray) : retM e d = .tuple #[.agg #[.int .i64 (oK e), .int .i64 (oC e), .int .u32 (oR e), .string (oS d e)], .bool e.isSome] := by
  cases e <;> rfl
theorem to6_gen {k c r a b n x y z : Int} {d s : ByteArray} {q : Bool} {e : Option (Int × Int × Int)} (hr : 0 ≤ r) (hr' : r < 4294967296) (h : t6 k c r a b n = e) (hx : oK e = x) (hy : oC e = y) (hz : oR e = z) (hs : oS d e = s) (hq : e.isSome = q) (w : World) :
    Calls Try.prog 12 #[msgV k c r d, .int .i64 a, .int .i64 b, .int .i64 n] w fun e w' => e = .returned (.tuple #[.agg #[.int .i64 x, .int .i64 y, .int .u32 z, .string s], .bool q]) ∧ Below w.heap.size w w' := by
  have h1 := to6_any k c r d a b n w hr hr'
  rw [h, retM_eq, hx, hy, hz, hs, hq] at h1
  exact h1
theorem to4_gen {k c r a b x y z : Int} {d s : ByteArray} {q : Bool} {e : Option (Int × Int × Int)} (hr : 0 ≤ r) (hr' : r < 4294967296) (h : t4 k c r a b = e) (hx : oK e = x) (hy : oC e = y) (hz : oR e = z) (hs : oS d e = s) (hq : e.isSome = q) (w : World) :
    Calls Try.prog 13 #[msgV k c r d, .int .i64 a, .int .i64 b] w fun e w' => e = .returned (.tuple #[.agg #[.int .i64 x, .int .i64 y, .int .u32 z, .string s], .bool q]) ∧ Below w.heap.size w w' := by
  have h1 := to4_any k c r d a b w hr hr'
  rw [h, retM_eq, hx, hy, hz, hs, hq] at h1
  exact h1
end Go.Proofs.Ytcppckpkiloilaa
