/-
  A parameter of type api.Msg, opened and shut. Conditions stand in each statement.
-/
import Derived.Test.YtcppckpkiloilaaG
import Derived.Lib.SmallJoins
import Derived.ChangeSame
import Derived.ChangeArms
import Derived.ChangeMaps5
import Derived.OpenShut
namespace Go.Proofs.Ytcppckpkiloilaa
open Go.ChangeShapes Go.WideShapes Go.ChangeAt Go.RowKit Go.Joins
set_option linter.unusedSectionVars false
section
variable {H : Type} {enc : TypeId × Value → H} {w : World} {base : Nat} {sp : Nat → Bool} {held : Bool}

theorem open_msg {r : Reach} {b0 : Nat} {v : Value} {d : DataW H} {ps : List MemPlace} (hval : Value.okWide Try.prog w r b0 26 v) (hd : DataW.Trod enc Try.prog w base sp held 26 v d ps) :
    ∃ (k c x : Int) (s : ByteArray), v = .agg #[.int .i64 k, .int .i64 c, .int .u32 x, .string s] ∧ d = .agg [.lit (.int .i64 k), .lit (.int .i64 c), .lit (.int .u32 x), .lit (.string s.data.toList)] ∧ ps = [] ∧
      (Lit.int .i64 k).wf = true ∧ (Lit.int .i64 c).wf = true ∧ (Lit.int .u32 x).wf = true ∧ s.size ≤ maxLen := by
  obtain ⟨v0, v1, v2, v3, y0, y1, y2, y3, n, rfl, rfl, rfl, h0, h1, h2, h3⟩ := open_agg4 Try.underlying26 (by kernel_rfl) (by kernel_rfl) hval hd
  obtain ⟨k, e0, rfl, w0⟩ := DataW.trod_int Try.underlying3 h0
  obtain ⟨c, e1, rfl, w1⟩ := DataW.trod_int Try.underlying3 h1
  obtain ⟨x, e2, rfl, w2⟩ := DataW.trod_int Try.underlying24 h2
  obtain ⟨s, e3, rfl, w3⟩ := DataW.trod_string Try.underlying9 h3
  simp only [List.cons.injEq, and_true] at e0 e1 e2 e3
  subst e0 e1 e2 e3
  exact ⟨k, c, x, s, rfl, rfl, rfl, w0, w1, w2, w3⟩
theorem shut_msg {k c x : Int} {s : ByteArray} (w0 : (Lit.int .i64 k).wf = true) (w1 : (Lit.int .i64 c).wf = true) (w2 : (Lit.int .u32 x).wf = true) (w3 : s.size ≤ maxLen) :
    DataW.Trod enc Try.prog w base sp held 26 (.agg #[.int .i64 k, .int .i64 c, .int .u32 x, .string s]) (.agg [.lit (.int .i64 k), .lit (.int .i64 c), .lit (.int .u32 x), .lit (.string s.data.toList)]) [] := by
  have t3 : ∃ n, DataW.trod enc Try.prog w base sp held n 9 [.string s] = some (.lit (.string s.data.toList), []) := ⟨1, by simp [DataW.trod, Try.underlying9, w3]⟩
  exact shut_agg4 Try.underlying26 (by kernel_rfl) (by kernel_rfl) ⟨1, trod_int_mk 0 Try.underlying3 w0⟩ ⟨1, trod_int_mk 0 Try.underlying3 w1⟩ ⟨1, trod_int_mk 0 Try.underlying24 w2⟩ t3
end
end Go.Proofs.Ytcppckpkiloilaa
