/-
  The walk of the law IcmpmapKnown: it returns true, and what was there stays. No condition.
-/
import Derived.Test.YtcppckpkiloilaaG
namespace Go.Proofs.Ytcppckpkiloilaa
open Go.RowKit
set_option linter.unusedSimpArgs false

set_option maxRecDepth 100000 in
set_option maxHeartbeats 8000000 in
theorem iknown_walk (w : World) : Calls Try.prog 5 #[] w fun e w' => e = .returned (.bool true) ∧ Below w.heap.size w w' := by
  have c1 := fun w => to6_is (k := 3) (c := 4) (r := 0) (a := 1500) (b := 1500) (n := 1500) (d := ⟨#[]⟩) (x := 2) (y := 0) (z := 1500) (by omega) (by omega) (by decide) w
  have c2 := fun w => to6_not (k := 3) (c := 14) (r := 0) (a := 1500) (b := 1500) (n := 0) (d := ⟨#[]⟩) (by omega) (by omega) (by decide) w
  have c3 := fun w => to4_not (k := 4) (c := 0) (r := 40) (a := 1500) (b := 1500) (d := ⟨#[]⟩) (by omega) (by omega) (by decide) w
  have c4 := fun w => to4_is (k := 4) (c := 0) (r := 7) (a := 1500) (b := 1500) (d := ⟨#[]⟩) (x := 12) (y := 0) (z := 134217728) (by omega) (by omega) (by decide) w
  have c5 := fun w => to6_not (k := 8) (c := 0) (r := 0) (a := 67) (b := 1500) (n := 0) (d := ⟨#[]⟩) (by omega) (by omega) (by decide) w
  have c6 := fun w => to6_not (k := 8) (c := 0) (r := 0) (a := 1500) (b := 1279) (n := 0) (d := ⟨#[]⟩) (by omega) (by omega) (by decide) w
  have p1 := fun w => plateau_is (n := 68) (m := 68) (by decide) w
  have p2 := fun w => plateau_is (n := 1492) (m := 1006) (by decide) w
  have he := eq26
  go_enter Try.func5, Try.ntmps5
  go_wp2_with (first | (go_at_call 12; (with_reducible refine (c1 _).mono ?_); rintro e w1 ⟨rfl, hb1⟩) | (go_at_call 12; (with_reducible refine (c2 _).mono ?_); rintro e w2 ⟨rfl, hb2⟩; have BA2 := (Blk.new _ _).below hb2) | (go_at_call 13; (with_reducible refine (c3 _).mono ?_); rintro e w3 ⟨rfl, hb3⟩; have BA3 := (BA2.alloc _).below hb3; have BB3 := (Blk.new _ _).below hb3) | (go_at_call 13; (with_reducible refine (c4 _).mono ?_); rintro e w4 ⟨rfl, hb4⟩; have BA4 := (BA3.alloc _).below hb4; have BB4 := (BB3.alloc _).below hb4; have BC4 := (Blk.new _ _).below hb4) | (go_at_call 12; (with_reducible refine (c5 _).mono ?_); rintro e w5 ⟨rfl, hb5⟩; have BA5 := (BA4.alloc _).below hb5; have BB5 := (BB4.alloc _).below hb5; have BC5 := (BC4.alloc _).below hb5; have BD5 := (Blk.new _ _).below hb5) | (go_at_call 12; (with_reducible refine (c6 _).mono ?_); rintro e w6 ⟨rfl, hb6⟩; have BA6 := (BA5.alloc _).below hb6; have BB6 := (BB5.alloc _).below hb6; have BC6 := (BC5.alloc _).below hb6; have BD6 := (BD5.alloc _).below hb6; have BE6 := (Blk.new _ _).below hb6) | (go_at_call 11; (with_reducible refine (awake_any _).mono ?_); rintro e w7 ⟨rfl, hb7⟩; have BA7 := (BA6.alloc _).below hb7; have BB7 := (BB6.alloc _).below hb7; have BC7 := (BC6.alloc _).below hb7; have BD7 := (BD6.alloc _).below hb7; have BE7 := (BE6.alloc _).below hb7; have BF7 := (Blk.new _ _).below hb7; obtain ⟨aq70, aq71, aq72, aq73⟩ := BA7.four; obtain ⟨dq70, dq71, dq72, dq73⟩ := BD7.four) | (go_at_call 14; (with_reducible refine (p1 _).mono ?_); rintro e w8 ⟨rfl, hb8⟩; have BA8 := BA7.below hb8; have BB8 := BB7.below hb8; have BC8 := BC7.below hb8; have BD8 := BD7.below hb8; have BE8 := BE7.below hb8; have BF8 := BF7.below hb8; obtain ⟨aq80, aq81, aq82, aq83⟩ := BA8.four; obtain ⟨dq80, dq81, dq82, dq83⟩ := BD8.four) | (go_at_call 14; (with_reducible refine (p2 _).mono ?_); rintro e w9 ⟨rfl, hb9⟩; have BA9 := BA8.below hb9; have BB9 := BB8.below hb9; have BC9 := BC8.below hb9; have BD9 := BD8.below hb9; have BE9 := BE8.below hb9; have BF9 := BF8.below hb9; obtain ⟨aq90, aq91, aq92, aq93⟩ := BA9.four; obtain ⟨dq90, dq91, dq92, dq93⟩ := BD9.four))
  go_ret
  have H1 := hb1
  have H2 : Below w.heap.size w w2 := (H1.alloc H1.size _).trans (hb2.mono (by have := H1.size; simp; omega))
  have H3 : Below w.heap.size w w3 := (H2.alloc H2.size _).trans (hb3.mono (by have := H2.size; simp; omega))
  have H4 : Below w.heap.size w w4 := (H3.alloc H3.size _).trans (hb4.mono (by have := H3.size; simp; omega))
  have H5 : Below w.heap.size w w5 := (H4.alloc H4.size _).trans (hb5.mono (by have := H4.size; simp; omega))
  have H6 : Below w.heap.size w w6 := (H5.alloc H5.size _).trans (hb6.mono (by have := H5.size; simp; omega))
  have H7 : Below w.heap.size w w7 := (H6.alloc H6.size _).trans (hb7.mono (by have := H6.size; simp; omega))
  have H8 : Below w.heap.size w w8 := H7.trans (hb8.mono H7.size)
  have H9 : Below w.heap.size w w9 := H8.trans (hb9.mono H8.size)
  exact ⟨rfl, H9⟩
end Go.Proofs.Ytcppckpkiloilaa
