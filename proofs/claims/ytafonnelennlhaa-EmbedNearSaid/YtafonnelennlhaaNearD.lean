/-
  What the law EmbedNear brings an address and a prefix to. Conditions stand in each statement.
-/
import Derived.Test.YtafonnelennlhaaDoesW
import Derived.OpenShut
namespace Go.Proofs.Ytafonnelennlhaa
open Go.RowKit
set_option linter.unusedVariables false

/-- The prefix behind k rounds: its bytes from m on, and byte 8, are noughts. -/
def clr (P : Nat → Int) (m k j : Nat) : Int := if j < k ∧ (m ≤ j ∨ j = 8) then 0 else P j
/-- The address behind k rounds: its first m bytes, and byte 8, are the prefix'. -/
def mix (P X : Nat → Int) (m k j : Nat) : Int := if j < k ∧ (j < m ∨ j = 8) then (if m ≤ j ∨ j = 8 then 0 else P j) else X j
def updn (X : Nat → Int) (i : Nat) (v : Int) (j : Nat) : Int := if j = i then v else X j
theorem clr_bytes {P : Nat → Int} (bp : Bytes 16 P) (m k : Nat) : Bytes 16 (clr P m k) := by
  intro j hj
  unfold clr
  split
  · omega
  · exact bp j hj
theorem mix_bytes {P X : Nat → Int} (bp : Bytes 16 P) (bx : Bytes 16 X) (m k : Nat) : Bytes 16 (mix P X m k) := by
  intro j hj
  unfold mix
  split
  · split
    · omega
    · exact bp j hj
  · exact bx j hj
theorem updn_bytes {X : Nat → Int} (bx : Bytes 16 X) {i : Nat} {v : Int} (h0 : 0 ≤ v) (h1 : v < 256) : Bytes 16 (updn X i v) := by
  intro j hj
  unfold updn
  split
  · exact ⟨h0, h1⟩
  · exact bx j hj
theorem clr_right (P : Nat → Int) {n : Int} {m : Nat} (hl : LenOk n) (hm : n / 8 = (m : Int)) : RightP (clr P m 16) n := by
  refine ⟨hl, fun j hj h => ?_⟩
  have h2 : m ≤ j ∨ j = 8 := by omega
  unfold clr
  rw [if_pos ⟨hj, h2⟩]
theorem set16 (X : Nat → Int) (q : Nat) (v : Int) (hq : q < 16) : (a16 X).setIfInBounds q (.int .u8 v) = a16 (updn X q v) := by
  apply Array.ext_getElem?
  intro i
  by_cases hi : i < 16
  · rw [get16 (updn X q v) i hi, Array.getElem?_setIfInBounds]
    by_cases e : q = i
    · subst e; rw [if_pos rfl, if_pos (by simpa using hq)]; unfold updn; rw [if_pos rfl]
    · rw [if_neg e, get16 X i hi]; unfold updn; rw [if_neg (fun h => e h.symm)]
  · rw [Array.getElem?_eq_none (by simp; omega), Array.getElem?_eq_none (by simp; omega)]
def A4 (Z : Nat → Int) (k : Nat) : Int := Z ([1, 5, 9, 13].getD k 0)
theorem does_lit {P Z : Nat → Int} (n : Int) (bp : Bytes 16 P) (bz : Bytes 16 Z) (w : World) :
    Calls Try.prog 4 #[net P n, .agg #[.int .u8 (Z 1), .int .u8 (Z 5), .int .u8 (Z 9), .int .u8 (Z 13)], .agg (a16 Z)] w fun e w' => e = .returned (.bool true) ∧ Below w.heap.size w w' :=
  does_walk P (A4 Z) Z n w bp bz
theorem l_slice {ops : Array Oper} {Q : Exit → Act → World → Prop} {o : Oper} {rest : List Oper} {a : Act} {w : World} (hw : Region.wanted o (yielded ops a.tmps) = true) (dst : Option Tmp) (hd : o.dst = dst) (cs : Array Value) (t : TypeId) (n m : Nat)
    (hrun : (execOp a.eval o).run Try.prog w = .ok (.value (.slice (some ⟨w.heap.size, 0, none⟩) n m)) (w.alloc (.cells cs t)))
    (h : wpList Try.prog ops Q rest (a.put dst (.slice (some ⟨w.heap.size, 0, none⟩) n m)) (w.alloc (.cells cs t))) : wpList Try.prog ops Q (o :: rest) a w := by
  refine wpList_want hw fun K hK => ?_
  unfold Oper.wp; rw [hrun]
  subst hd
  exact hK _ _ h
end Go.Proofs.Ytafonnelennlhaa
