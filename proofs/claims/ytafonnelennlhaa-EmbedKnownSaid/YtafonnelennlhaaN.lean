/-
  Parameters that are addresses and prefixes, opened and shut. Conditions stand in each statement.
-/
import Derived.Test.YtafonnelennlhaaH
import Derived.Lib.SmallJoins
import Derived.ChangeSame
import Derived.ChangeArms
import Derived.ChangeMaps5
import Derived.OpenShut
import Derived.DataBytes
namespace Go.Proofs.Ytafonnelennlhaa
open Go.ChangeShapes Go.WideShapes Go.ChangeAt Go.RowKit Go.Joins
set_option linter.unusedSectionVars false
section
variable {H : Type} {enc : TypeId × Value → H} {w : World} {base : Nat} {sp : Nat → Bool} {held : Bool}

def dRow (n : Nat) (X : Nat → Int) : DataW H := .agg ((List.range n).map fun i => .lit (.int .u8 (X i)))
def vRow (n : Nat) (X : Nat → Int) : List Value := (List.range n).map fun i => .int .u8 (X i)
theorem cells5 : Try.prog.cellsOf 5 = 1 := by kernel_rfl
theorem open_row {n : Nat} {t : TypeId} (ht : Try.prog.underlying t = some (.array n 5)) (hC : Try.prog.cellsOf t = n) {fuel : Nat} {cs : List Value} {x : DataW H × List MemPlace}
    (h : DataW.trod enc Try.prog w base sp held fuel t cs = some x) : ∃ X : Nat → Int, cs = vRow n X ∧ x = (dRow n X, []) ∧ ∀ i, i < n → (Lit.int .u8 (X i)).wf = true := by
  obtain ⟨xs, m, _, rfl, hl, hlen, hf⟩ := DataW.trod_array ht h
  rw [hC] at hl
  have key : ∀ i, i < n → ∃ k : Int, cs[i]? = some (.int .u8 k) ∧ xs[i]? = some (.lit (.int .u8 k), []) ∧ (Lit.int .u8 k).wf = true := by
    intro i hi
    have h1 := hf i hi
    rw [cells5, Nat.mul_one] at h1
    have hxi : i < xs.length := by omega
    have hci : i < cs.length := by omega
    rw [List.getElem?_eq_getElem hxi] at h1
    obtain ⟨k, e, hx, wk⟩ := DataW.trod_int Try.underlying5 h1
    have e2 : (cs.drop i).take 1 = [cs[i]] := by
      rw [List.drop_eq_getElem_cons hci]; rfl
    rw [e2] at e
    simp only [List.cons.injEq, and_true] at e
    exact ⟨k, by rw [List.getElem?_eq_getElem hci, e], by rw [List.getElem?_eq_getElem hxi, hx], wk⟩
  have hX : ∃ X : Nat → Int, ∀ i, i < n → cs[i]? = some (.int .u8 (X i)) ∧ xs[i]? = some (.lit (.int .u8 (X i)), []) ∧ (Lit.int .u8 (X i)).wf = true := by
    refine ⟨fun i => match cs[i]? with | some (.int _ k) => k | _ => 0, fun i hi => ?_⟩
    obtain ⟨k, h1, h2, h3⟩ := key i hi
    simp only [h1]
    exact ⟨trivial, h2, h3⟩
  obtain ⟨X, hX⟩ := hX
  refine ⟨X, ?_, ?_, fun i hi => (hX i hi).2.2⟩
  · apply List.ext_getElem?
    intro i
    by_cases hi : i < n
    · rw [(hX i hi).1]; simp [vRow, hi]
    · rw [List.getElem?_eq_none (by omega), List.getElem?_eq_none (by simp [vRow]; omega)]
  · have hxs : xs = (List.range n).map fun i => (DataW.lit (.int .u8 (X i)), []) := by
      apply List.ext_getElem?
      intro i
      by_cases hi : i < n
      · rw [(hX i hi).2.1]; simp [hi]
      · rw [List.getElem?_eq_none (by omega), List.getElem?_eq_none (by simp; omega)]
    rw [hxs]
    simp only [List.map_map, Prod.mk.injEq]
    refine ⟨?_, ?_⟩
    · unfold dRow; congr 1
    · simp
theorem shut_row {n : Nat} {t : TypeId} (ht : Try.prog.underlying t = some (.array n 5)) (hC : Try.prog.cellsOf t = n) {X : Nat → Int} (hw : ∀ i, i < n → (Lit.int .u8 (X i)).wf = true) (m : Nat) :
    DataW.trod enc Try.prog w base sp held (m + 2) t (vRow n X) = some (dRow n X, []) := by
  unfold DataW.trod
  rw [ht]
  have hl : (vRow n X).length = Try.prog.cellsOf t := by rw [hC]; simp [vRow]
  simp only [hl, if_true]
  rw [Go.mapM_some_of_forall (g := fun i => (DataW.lit (.int .u8 (X i)), [])) (List.range n) ?_]
  · simp only [Option.map_some, Option.some.injEq, List.map_map, Prod.mk.injEq]
    refine ⟨?_, ?_⟩
    · unfold dRow; congr 1
    · simp
  · intro i hi
    have hi := List.mem_range.1 hi
    rw [cells5, Nat.mul_one]
    have e2 : ((vRow n X).drop i).take 1 = [.int .u8 (X i)] := by
      have hlen : i < (vRow n X).length := by simp [vRow, hi]
      rw [List.drop_eq_getElem_cons hlen]
      simp [vRow]
    rw [e2]
    exact trod_int_mk m Try.underlying5 (hw i hi)
theorem agg_of {v : Value} {n : Nat} {X : Nat → Int} (hn : n ≠ 1) (h : v.cells.toList = vRow n X) : v = .agg (vRow n X).toArray := by
  cases v with
  | agg cs => simp only [Value.cells] at h; rw [← h]
  | _ => simp only [Value.cells] at h; have := congrArg List.length h; simp [vRow] at this; exact absurd this.symm hn
theorem bytes_of {n : Nat} {X : Nat → Int} (h : ∀ i, i < n → (Lit.int .u8 (X i)).wf = true) : Bytes n X := by
  intro i hi
  have := bounds_u8 (h i hi)
  omega

theorem open_a16 {v : Value} {d : DataW H} {ps : List MemPlace} (hd : DataW.Trod enc Try.prog w base sp held 23 v d ps) :
    ∃ X : Nat → Int, v = .agg (a16 X) ∧ d = dRow 16 X ∧ ps = [] ∧ ∀ i, i < 16 → (Lit.int .u8 (X i)).wf = true := by
  obtain ⟨fuel, hf⟩ := hd
  obtain ⟨X, h1, h2, h3⟩ := open_row Try.underlying23 (by kernel_rfl) hf
  simp only [Prod.mk.injEq] at h2
  exact ⟨X, agg_of (by omega) h1, h2.1, h2.2, h3⟩
theorem open_a4 {v : Value} {d : DataW H} {ps : List MemPlace} (hd : DataW.Trod enc Try.prog w base sp held 31 v d ps) :
    ∃ X : Nat → Int, v = .agg (a4 X) ∧ d = dRow 4 X ∧ ps = [] ∧ ∀ i, i < 4 → (Lit.int .u8 (X i)).wf = true := by
  obtain ⟨fuel, hf⟩ := hd
  obtain ⟨X, h1, h2, h3⟩ := open_row Try.underlying31 (by kernel_rfl) hf
  simp only [Prod.mk.injEq] at h2
  exact ⟨X, agg_of (by omega) h1, h2.1, h2.2, h3⟩
theorem shut_a16 {X : Nat → Int} (h : ∀ i, i < 16 → (Lit.int .u8 (X i)).wf = true) : DataW.Trod enc Try.prog w base sp held 23 (.agg (a16 X)) (dRow 16 X) [] :=
  ⟨2, shut_row Try.underlying23 (by kernel_rfl) h 0⟩
theorem shut_a4 {X : Nat → Int} (h : ∀ i, i < 4 → (Lit.int .u8 (X i)).wf = true) : DataW.Trod enc Try.prog w base sp held 31 (.agg (a4 X)) (dRow 4 X) [] :=
  ⟨2, shut_row Try.underlying31 (by kernel_rfl) h 0⟩
theorem open_net {r : Reach} {b0 : Nat} {v : Value} {d : DataW H} {ps : List MemPlace} (hval : Value.okWide Try.prog w r b0 26 v) (hd : DataW.Trod enc Try.prog w base sp held 26 v d ps) :
    ∃ (X : Nat → Int) (n : Int), v = net X n ∧ d = .agg [dRow 16 X, .lit (.int .i64 n)] ∧ ps = [] ∧ (∀ i, i < 16 → (Lit.int .u8 (X i)).wf = true) ∧ (Lit.int .i64 n).wf = true := by
  obtain ⟨cs, rfl, hsz⟩ := okWide_struct Try.underlying26 hval
  obtain ⟨fuel, hf⟩ := hd
  obtain ⟨y0, y1, m, hx, hl, h0, h1⟩ := trod_struct2 Try.underlying26 hf
  obtain ⟨X, e1, e2, e3⟩ := open_row Try.underlying23 (by kernel_rfl) h0
  obtain ⟨n, g1, g2, g3⟩ := DataW.trod_int Try.underlying3 h1
  subst e2 g2
  simp only [Prod.mk.injEq, List.append_nil] at hx
  have hc : Try.prog.cellsOf 26 = 17 := by kernel_rfl
  have hc23 : Try.prog.cellsOf 23 = 16 := by kernel_rfl
  have hc3 : Try.prog.cellsOf 3 = 1 := by kernel_rfl
  simp only [Value.cells, hc] at hl
  simp only [Value.cells, hc23, List.drop_zero] at e1
  simp only [Value.cells, hc3] at g1
  have hall : cs.toList = vRow 16 X ++ [Value.int .i64 n] := by
    rw [← e1, ← g1]
    have h2 : (cs.toList.drop 16).take 1 = cs.toList.drop 16 := List.take_of_length_le (by rw [List.length_drop, hl]; omega)
    rw [h2, List.take_append_drop]
  have hcs : cs = (vRow 16 X ++ [Value.int .i64 n]).toArray := by rw [← hall]
  refine ⟨X, n, ?_, hx.1, hx.2, e3, g3⟩
  rw [hcs]
  rfl
theorem shut_net {X : Nat → Int} {n : Int} (h : ∀ i, i < 16 → (Lit.int .u8 (X i)).wf = true) (hn : (Lit.int .i64 n).wf = true) : DataW.Trod enc Try.prog w base sp held 26 (net X n) (.agg [dRow 16 X, .lit (.int .i64 n)]) [] := by
  have hc23 : Try.prog.cellsOf 23 = 16 := by kernel_rfl
  have hc3 : Try.prog.cellsOf 3 = 1 := by kernel_rfl
  have t0 := shut_row (enc := enc) (w := w) (base := base) (sp := sp) (held := held) Try.underlying23 (by kernel_rfl) h 0
  have t1 := trod_int_mk (enc := enc) (w := w) (base := base) (spare := sp) (held := held) (n := n) 1 Try.underlying3 hn
  refine ⟨3, trod_struct2_mk (n := 2) (cs := (net X n).cells.toList) Try.underlying26 (by kernel_rfl) (y0 := (dRow 16 X, [])) (y1 := (.lit (.int .i64 n), [])) ?_ ?_⟩
  · show DataW.trod enc Try.prog w base sp held 2 23 (((net X n).cells.toList.drop 0).take (Try.prog.cellsOf 23)) = _
    rw [hc23]; exact t0
  · show DataW.trod enc Try.prog w base sp held 2 3 (((net X n).cells.toList.drop 16).take (Try.prog.cellsOf 3)) = _
    rw [hc3]; exact t1
end
end Go.Proofs.Ytafonnelennlhaa
