/-
  Laws of blocks: a row or a cell is stored or loaded; all other blocks stay. Conditions stand in each statement.
-/
import Derived.Test.YtafonnelennlhaaC
import Derived.Laws.CopyRow
namespace Go.Proofs.Ytafonnelennlhaa
open Go.RowKit

/-- All blocks but g are as they were. -/
structure Oth (g : Nat) (w w' : World) : Prop where
  os : w'.os = w.os
  tape : w'.tape = w.tape
  output : w'.output = w.output
  size : w'.heap.size = w.heap.size
  block : ∀ k, k ≠ g → w'.heap[k]? = w.heap[k]?
theorem Blk.oth {w w' : World} {g k : Nat} {t : TypeId} {cs : Array Value} (h : Blk w k t cs) (O : Oth g w w') (hk : k ≠ g) : Blk w' k t cs := (O.block k hk).trans h
theorem oth_below {B g : Nat} {a w w' : World} (h : Below B a w) (O : Oth g w w') (hB : B ≤ g) : Below B a w' :=
  h.trans ⟨O.os, O.tape, O.output, by rw [O.size]; exact Nat.le_refl _, fun k hk => O.block k (by omega)⟩
theorem Oth.setRow (w : World) (g : Nat) (cs : Array Value) : Oth g w (w.setRow g cs) := ⟨rfl, rfl, rfl, by simp, fun k hk => setRow_other w g k cs hk⟩

theorem st_row {ops : Array Oper} {rest : List Oper} {o : Oper} {a : Act} {w : World} {Q : Exit → Act → World → Prop} {g : Nat} {t : TypeId} {old : Array Value} (B : Blk w g t old)
    (hgd : o.guard = none) (ty : TypeId) (x y : Operand) (ho : o.op = .store ty x y)
    (hx : a.eval x = .pointer (some ⟨g, 0, none⟩)) (vs : Array Value) (hy : a.eval y = .agg vs)
    (hi : (Try.prog.info? ty).map (·.size) = some vs.size) (hold : old.size = vs.size) (h1 : vs.all (·.oneCell') = true)
    (h : ∀ w', Blk w' g t vs → Oth g w w' → wpList Try.prog ops Q rest (a.put o.dst undef) w') : wpList Try.prog ops Q (o :: rest) a w :=
  wpList_store_row hgd ty x y ho g vs hx hy t old B hi hold h1 (h _ (setRow_heap w g old vs t _ B) (Oth.setRow w g vs))

theorem run_storeVar_one (w : World) (g i : Nat) (t ty : TypeId) (old : Array Value) (v : Value) (hg : Blk w g t old) (hi : (Try.prog.info? ty).map (·.size) = some 1)
    (hlt : i < old.size) (h1 : v.oneCell' = true) (hc : v.cells = #[v]) :
    (storeVar ty ⟨g, i, none⟩ v).run Try.prog w = .ok () (w.setRow g (old.setIfInBounds i v)) := by
  have hcell : w.cell? ⟨g, i, none⟩ = some old[i] := by unfold Blk at hg; simp [World.cell?, hg, hlt]
  have hfro : w.frozen? ⟨g, i, none⟩ = false := by unfold Blk at hg; simp [World.frozen?, hg]
  have hst : (store (⟨g, i, none⟩ : Addr) v).run Try.prog w = .ok () (w.setRow g (old.setIfInBounds i v)) := by
    rw [run_store Try.prog w _ v _ h1, hcell]
    simp [hfro, setCell_eq_setRow w g i old t (0, 0) v hg]
  have hadd : (⟨g, i, none⟩ : Addr).add 0 = ⟨g, i, none⟩ := by unfold Addr.add; split <;> simp_all
  cases hq : Try.prog.info? ty with
  | none => simp [hq] at hi
  | some j =>
    have hs : j.size = 1 := by simpa [hq] using hi
    simp [storeVar, sizeOf, typeInfo, hq, hc, hs, storeCells, hadd, Sem.run_bind, hst]
theorem st_cell {ops : Array Oper} {rest : List Oper} {o : Oper} {a : Act} {w : World} {Q : Exit → Act → World → Prop} {g : Nat} {t : TypeId} {old : Array Value} (B : Blk w g t old)
    (hgd : o.guard = none) (ty : TypeId) (x y : Operand) (ho : o.op = .store ty x y) (i : Nat)
    (hx : a.eval x = .pointer (some ⟨g, i, none⟩)) (v : Value) (hy : a.eval y = v)
    (hi : (Try.prog.info? ty).map (·.size) = some 1) (hlt : decide (i < old.size) = true) (h1 : v.oneCell' = true) (hc : v.cells = #[v])
    (h : ∀ w', Blk w' g t (old.setIfInBounds i v) → Oth g w w' → wpList Try.prog ops Q rest (a.put o.dst undef) w') : wpList Try.prog ops Q (o :: rest) a w := by
  refine wpList_plain hgd fun K hK => ?_
  unfold Oper.wp execOp
  simp only [ho, hx, hy, Instr.storeAt, Instr.sureAddr, Sem.run_bind, Sem.run_pure, Result.andThen_ok, run_storeVar_one w g i t ty old v B hi (of_decide_eq_true hlt) h1 hc]
  exact hK _ _ (h _ (setRow_heap w g old _ t _ B) (Oth.setRow w g _))

def aggD : TypeDesc → Bool | .struct _ => true | .array _ _ => true | _ => false
theorem run_loadVar_part (w : World) (g off : Nat) (t ty : TypeId) (cs vs : Array Value) (d : TypeDesc) (hg : Blk w g t cs)
    (hu : Try.prog.underlying ty = some d) (hd : aggD d = true) (hi : (Try.prog.info? ty).map (·.size) = some vs.size)
    (hv : (cs.toList.drop off).take vs.size = vs.toList) :
    (loadVar ty ⟨g, off, none⟩).run Try.prog w = .ok (.agg vs) w := by
  have hl : (loadCells ⟨g, off, none⟩ vs.toList.length).run Try.prog w = .ok vs.toList.toArray w :=
    run_loadCells_list (P := Try.prog) w ⟨g, off, none⟩ vs.toList (fun j v h => by
      have hadd : (⟨g, off, none⟩ : Addr).add j = ⟨g, off + j, none⟩ := by unfold Addr.add; split <;> simp_all
      rw [hadd, cell_of_row w g _ cs t _ hg]
      rw [← hv] at h
      rw [List.getElem?_take] at h
      split at h
      · rw [List.getElem?_drop] at h
        simpa using h
      · cases h)
  cases hq : Try.prog.info? ty with
  | none => simp [hq] at hi
  | some i =>
    have hs : i.size = vs.size := by simpa [hq] using hi
    have hagg : (isAgg ty).run Try.prog w = .ok true w := by
      unfold isAgg
      rw [Sem.run_bind, run_underlying hu w]
      cases d <;> simp_all [aggD]
    simp only [Array.length_toList, Array.toArray_toList] at hl
    simp [loadVar, Sem.run_bind, hagg, sizeOf, typeInfo, hq, hs, hl]
theorem ld_part {ops : Array Oper} {rest : List Oper} {o : Oper} {a : Act} {w : World} {Q : Exit → Act → World → Prop} {g : Nat} {t : TypeId} {cs : Array Value} (B : Blk w g t cs)
    (hgd : o.guard = none) (ty : TypeId) (x : Operand) (ho : o.op = .load ty x) (off : Nat)
    (hx : a.eval x = .pointer (some ⟨g, off, none⟩)) (vs : Array Value) (d : TypeDesc)
    (hu : Try.prog.underlying ty = some d) (hd : aggD d = true) (hi : (Try.prog.info? ty).map (·.size) = some vs.size)
    (hv : (cs.toList.drop off).take vs.size = vs.toList)
    (h : wpList Try.prog ops Q rest (a.put o.dst (.agg vs)) w) : wpList Try.prog ops Q (o :: rest) a w := by
  refine wpList_plain hgd fun K hK => ?_
  unfold Oper.wp execOp
  simp only [ho, hx, Instr.loadAt, Instr.sureAddr, Sem.run_bind, Sem.run_pure, Result.andThen_ok, run_loadVar_part w g off t ty cs vs d B hu hd hi hv]
  exact hK _ _ h
theorem ld_cell {ops : Array Oper} {rest : List Oper} {o : Oper} {a : Act} {w : World} {Q : Exit → Act → World → Prop} {g : Nat} {t : TypeId} {cs : Array Value} (B : Blk w g t cs)
    (hgd : o.guard = none) (ty : TypeId) (x : Operand) (ho : o.op = .load ty x) (i : Nat)
    (hx : a.eval x = .pointer (some ⟨g, i, none⟩)) (v : Value) (k : IntKind) (hu : Try.prog.underlying ty = some (.int k)) (hv : cs[i]? = some v)
    (h : wpList Try.prog ops Q rest (a.put o.dst v) w) : wpList Try.prog ops Q (o :: rest) a w := by
  refine wpList_plain hgd fun K hK => ?_
  have hcell := B.cell hv
  have hagg : (isAgg ty).run Try.prog w = .ok false w := by
    unfold isAgg
    rw [Sem.run_bind, run_underlying hu w]
    rfl
  unfold Oper.wp execOp
  simp only [ho, hx, Instr.loadAt, Instr.sureAddr, Sem.run_bind, Sem.run_pure, Result.andThen_ok, loadVar, hagg]
  simp [run_load, hcell]
  exact hK _ _ h

theorem results_cell_tmp {fn : Func} {p q : Tmp} {ty : TypeId} (h : fn.results = #[.cell p ty, .tmp q]) {tmps : Array Value} {w : World} {g : Nat} {t : TypeId} {cs : Array Value} (hg : Blk w g t cs) (d : TypeDesc)
    (hp : tmps.getD p undef = .pointer (some ⟨g, 0, none⟩)) (v : Value) (hq : tmps.getD q undef = v)
    (hu : Try.prog.underlying ty = some d) (hd : aggD d = true) (hi : (Try.prog.info? ty).map (·.size) = some cs.size) :
    (results fn tmps).run Try.prog w = .ok (.tuple #[.agg cs, v]) w := by
  have hp' : tmps[p]?.getD undef = .pointer (some ⟨g, 0, none⟩) := by simpa using hp
  have hq' : tmps[q]?.getD undef = v := by simpa using hq
  simp [results, h, hp', hq', asAddr, run_loadVar_part w g 0 t ty cs cs d hg hu hd hi (by rw [List.drop_zero]; exact List.take_of_length_le (by simp))]
end Go.Proofs.Ytafonnelennlhaa
