/-
  TcpsmBoth: whatever segments, the law returns true, and they read as they did: the row, out of the walk (both_walk).
  No condition.
-/
import Derived.Test.YtgjgbcakhmphlaaRows
import Derived.Test.YtgjgbcakhmphlaaBothW
import Derived.Test.YtgjgbcakhmphlaaS
import Derived.WalkKit
import Derived.ProofKit
import Derived.OpenShut
import Derived.ShutString
import Derived.ChangeOld
import Derived.Below
import Derived.SizedLaws
namespace Go.Proofs.Ytgjgbcakhmphlaa
open Go.RowKit
theorem both_walk (A : Option Addr) (n c : Nat) (six : Nat → Bool) (fl : Nat → Int) (w : World) (hs : SegsAt w A n six fl) :
    Calls Try.prog 4 #[.slice A n c] w fun e w' => e = .returned (.bool true) ∧ Below w.heap.size w w' := by
  by_cases hb : 300 < n
  · exact both_big A n c w hb
  · by_cases h0 : n = 0
    · subst h0; exact both_zero A c w
    · obtain ⟨b, off, rfl, hlt, hk⟩ := hs (by omega)
      exact both_round b off n c six fl w hlt (by omega) (fun k h => (hk k h).1) (fun k h => (hk k h).2)
end Go.Proofs.Ytgjgbcakhmphlaa
namespace Go.Proofs.Ytgjgbcakhmphlaa.tcpsmBoth
open Go.ChangeShapes Go.WideShapes Go.ChangeAt Go.RowKit
set_option linter.unusedVariables false
theorem own : ownKnob Try.prog.godebug = none := by kernel_rfl
set_option maxRecDepth 100000 in
theorem lifted (os : Os) (started : os.Started) (H : Type) (enc : TypeId × Value → H) :
    ReturnsInHanded {} Try.checked os 4 .any (Rows.tcpsmBothSpec.pre6 enc Try.prog Try.f4 Rows.tcpsmBothRow.domain false) (Rows.tcpsmBothSpec.post enc Try.prog Try.f4 false true false false) := by
  refine returnsInHanded_of_change_sized (C := Try.checked) own started (by kernel_rfl) Try.func4
    (ChangeSpec.witness6 (enc := enc) (C := Try.checked) false ⟨#[], #[.slice none 0 0], []⟩ 8 (by kernel_rfl) (by kernel_rfl) (by kernel_rfl) (by kernel_rfl)) ?_
  intro W base args ds gs before hval0 hW hcnd hsz0 _
  have hval : ∀ (j : Nat) t v, Try.f4.params[j]? = some t → args[j]? = some v → Value.okWide Try.prog W .any base t v := hval0
  have hW' := hW
  obtain ⟨p, q, hA0, hV, rfl, hfz, hnd⟩ := hW
  have hA : DataW.TrodAll enc Try.prog W 0 (fun _ => true) true Try.f4.params.toList args.toList ds p := hA0
  rw [Try.params4] at hA hval
  obtain ⟨v0, vs0, d0, ds0, p0, q0, hargs, rfl, rfl, h0, r0⟩ := trodAll_cons hA
  obtain ⟨rfl, rfl, rfl⟩ := trodAll_nil r0
  obtain rfl : args = #[v0] := by cases args; simp_all
  obtain ⟨rfl, rfl⟩ := trodVars_none hV
  have hlt : ∀ x ∈ p0, x.block < W.heap.size := fun x hx => by have := hW'.lt x (by simpa using hx); simpa using this
  obtain ⟨A, n, c, six, fl, hv, hnc, hc, hs⟩ := open_segs (hval 0 22 v0 rfl rfl) h0
  clear hA0 hval0 hsz0
  subst hv
  refine (both_walk A n c six fl W hs).mono fun e W' ⟨he, bel⟩ => ?_
  subst he
  exact ⟨_, rfl, _, _, _, [], _, [], hW', trodAll_mk1 (shut_bool Try.underlying4 _), trodAll_cons_mk (Below.trod laidOut (by kernel_rfl) (of_decide_eq_true (by kernel_rfl)) h0 bel hlt) trodAll_mk0, rfl, bel.frame _, fun h => by cases h⟩
theorem over : Rows.tcpsmBothRow.holds Try.pinned (OpenSpec.ofChange Rows.tcpsmBothSpec) :=
  OpenClaim.holds_of_wide 4 Try.f4 rfl rfl rfl rfl rfl rfl rfl ⟨rfl, rfl, rfl, rfl, rfl⟩ rfl rfl rfl rfl rfl (by kernel_rfl) Try.func4 (by kernel_rfl)
    (of_decide_eq_true (by kernel_rfl)) (by unfold Func.isWrapper; first | (rw [if_pos (by decide +kernel)]; kernel_rfl) | (rw [if_neg (by decide +kernel)]; exact ⟨rfl, rfl⟩))
    (fun os started H enc _ => lifted os started H enc)
end Go.Proofs.Ytgjgbcakhmphlaa.tcpsmBoth
namespace Go.Proofs.Ytgjgbcakhmphlaa
theorem tcpsmBoth_holds : Rows.TcpsmBothSaid := tcpsmBoth.over
#print axioms tcpsmBoth_holds
end Go.Proofs.Ytgjgbcakhmphlaa
