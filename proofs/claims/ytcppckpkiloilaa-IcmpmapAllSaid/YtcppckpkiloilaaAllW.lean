/-
  The walk of the law IcmpmapAll: it returns true, and what was there stays. Condition: the arguments fit their kinds.
-/
import Derived.Test.YtcppckpkiloilaaSaysW
import Derived.Deep.LoopGhost
namespace Go.Proofs.Ytcppckpkiloilaa
open Go.RowKit
set_option linter.unusedSimpArgs false
set_option linter.unusedVariables false

set_option maxRecDepth 100000 in
set_option maxHeartbeats 4000000 in
theorem all_walk (r a b n : Int) (w : World) (wr : (Lit.int .u32 r).wf = true) (wa : (Lit.int .u16 a).wf = true) (wb : (Lit.int .u16 b).wf = true) (wn : (Lit.int .i64 n).wf = true) :
    Calls Try.prog 7 #[.int .u32 r, .int .u16 a, .int .u16 b, .int .i64 n] w fun e w' => e = .returned (.bool true) ∧ Below w.heap.size w w' := by
  obtain ⟨h0, h1⟩ := u32_of wr
  have H0 := Lib.hid h0
  have H1 := Lib.hid h1
  have hwa : IntKind.i64.wrap a = a := by have := bounds_u16 wa; rw [IntKind.wrap_i64]; omega
  have hwb : IntKind.i64.wrap b = b := by have := bounds_u16 wb; rw [IntKind.wrap_i64]; omega
  clear wr wa wb wn h0 h1
  by_cases g1 : a < 68 <;> by_cases g2 : b < 1280
  all_goals
    go_enter Try.func7, Try.ntmps7
    go_wp2_with (go_at_call 11; (with_reducible refine (awake_any _).mono ?_); rintro e w1 ⟨rfl, hb1⟩)
    go_loopw [11, 12] (fun i _ wr => ∃ k : Nat, k ≤ 256 ∧ i = .int .i64 k ∧ Below w.heap.size w wr) (fun i _ _ => 256 - (intOf i).toNat)
    case atStart => exact ⟨0, by omega, rfl, hb1⟩
    case round =>
      obtain ⟨k, hk, rfl, hB⟩ := hrel
      by_cases hlt : k < 256
      · have hd : decide ((k : Int) < 256) = true := by simp; omega
        go_wp2
        go_loopw [12] (fun j wq => ∃ m : Nat, m ≤ 20 ∧ j = .int .i64 m ∧ Below w.heap.size w wq) (fun j _ => 20 - (intOf j).toNat)
        case atStart => exact ⟨0, by omega, rfl, hB⟩
        case round =>
          obtain ⟨m, hm, rfl, hB2⟩ := hrel
          by_cases hl2 : m < 20
          · go_wp2_with (go_at_call 8; (with_reducible refine (one_any _ _ _ _ _ _ _ _ H0.out H1.out).mono ?_); rintro e w3 ⟨rfl, hb3⟩)
            go_roundw
            case rel => first | exact ⟨m + 1, by omega, by go_num, hB2.trans (hb3.mono hB2.size)⟩ | ((repeat apply Exists.intro); refine ⟨⟨m + 1, by omega, ?e, hB2.trans (hb3.mono hB2.size)⟩, rfl⟩; go_num)
            case measure => simp [intOf]; omega
          · obtain rfl : m = 20 := by omega
            go_wp2
            go_roundw
            case rel => first | exact ⟨k + 1, by omega, by go_num, hB2⟩ | ((repeat apply Exists.intro); refine ⟨⟨k + 1, by omega, ?e, hB2⟩, rfl⟩; go_num)
            case measure => simp [intOf]; omega
      · obtain rfl : k = 256 := by omega
        go_wp2
        go_ret
        exact ⟨rfl, hB⟩
end Go.Proofs.Ytcppckpkiloilaa
