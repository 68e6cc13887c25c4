/-
  Loads in a region that draws its order, where the memory is known. Conditions stand in each statement.
-/
import Derived.Test.YtafonnelennlhaaP
import Derived.Deep.RegionHeld3
import Derived.Deep.CutRange
import Derived.Deep.DeepCutAuto
namespace Go.Proofs.Ytafonnelennlhaa
open Go.RowKit

theorem Mem.alloc {W w : World} {l : List Row} (M : Mem W w l) (o : Obj) : Mem W (w.alloc o) l :=
  ⟨M.below.alloc M.below.size _, fun p hp => (M.blk p hp).alloc _, M.base, M.nodup⟩
theorem Mem.init {W w : World} {l r : List Row} (M : Mem W w (l ++ r)) : Mem W w l :=
  ⟨M.below, fun p hp => M.blk p (List.mem_append_left _ hp), fun p hp => M.base p (List.mem_append_left _ hp), by
    have h := M.nodup; rw [List.map_append, List.nodup_append] at h; exact h.1⟩
theorem Mem.two (W : World) (t0 t1 : TypeId) (c0 c1 : Array Value) : Mem W ((W.alloc (.cells c0 t0)).alloc (.cells c1 t1)) [(W.heap.size, t0, c0), (W.heap.size + 1, t1, c1)] :=
  ((Mem.start W).new rfl t0 c0).new (by simp) t1 c1
theorem Mem.three (W : World) (t0 t1 t2 : TypeId) (c0 c1 c2 : Array Value) : Mem W (((W.alloc (.cells c0 t0)).alloc (.cells c1 t1)).alloc (.cells c2 t2)) [(W.heap.size, t0, c0), (W.heap.size + 1, t1, c1), (W.heap.size + 1 + 1, t2, c2)] :=
  (Mem.two W t0 t1 c0 c1).new (by simp) t2 c2
variable {ops : Array Oper} {o : Oper} {a : Act}
theorem yi_part {W : World} {l : List Row} (i : Nat) (ty : TypeId) (x : Operand) (ho : o.op = .load ty x) (hw : Region.wanted o (yielded ops a.tmps) = true)
    {g : Nat} {t : TypeId} {cs : Array Value} (hl : l[i]? = some (g, t, cs)) (off : Nat) (hx : a.eval x = .pointer (some ⟨g, off, none⟩)) (vs : Array Value) {d : TypeDesc}
    (hu : Try.prog.underlying ty = some d) (hd : aggD d = true) (hi : (Try.prog.info? ty).map (·.size) = some vs.size) (hv : (cs.toList.drop off).take vs.size = vs.toList) :
    YieldsIf Try.prog ops (fun w' => Mem W w' l) o (.agg vs) a := by
  refine .inl ⟨hw, fun w M => ?_⟩
  unfold execOp
  simp only [ho, hx, Instr.loadAt, Instr.sureAddr, Sem.run_bind, Sem.run_pure, Result.andThen_ok, run_loadVar_part w g off t ty cs vs d (Mem.row M hl) hu hd hi hv]
theorem yi_row {W : World} {l : List Row} (i : Nat) (ty : TypeId) (x : Operand) (ho : o.op = .load ty x) (hw : Region.wanted o (yielded ops a.tmps) = true)
    {g : Nat} {t : TypeId} {cs : Array Value} (hl : l[i]? = some (g, t, cs)) (hx : a.eval x = .pointer (some ⟨g, 0, none⟩)) {d : TypeDesc}
    (hu : Try.prog.underlying ty = some d) (hd : aggD d = true) (hi : (Try.prog.info? ty).map (·.size) = some cs.size) :
    YieldsIf Try.prog ops (fun w' => Mem W w' l) o (.agg cs) a :=
  yi_part i ty x ho hw hl 0 hx cs hu hd hi (by rw [List.drop_zero]; exact List.take_of_length_le (by simp))
theorem yi_cell {W : World} {l : List Row} (i : Nat) (ty : TypeId) (x : Operand) (ho : o.op = .load ty x) (hw : Region.wanted o (yielded ops a.tmps) = true)
    {g : Nat} {t : TypeId} {cs : Array Value} (hl : l[i]? = some (g, t, cs)) (j : Nat) (hx : a.eval x = .pointer (some ⟨g, j, none⟩)) (v : Value) {k : IntKind} (hu : Try.prog.underlying ty = some (.int k)) (hv : cs[j]? = some v) :
    YieldsIf Try.prog ops (fun w' => Mem W w' l) o v a := by
  refine .inl ⟨hw, fun w M => ?_⟩
  have hcell := (Mem.row M hl).cell hv
  have hagg : (isAgg ty).run Try.prog w = .ok false w := by
    unfold isAgg
    rw [Sem.run_bind, run_underlying hu w]
    rfl
  unfold execOp
  simp only [ho, hx, Instr.loadAt, Instr.sureAddr, Sem.run_bind, Sem.run_pure, Result.andThen_ok, loadVar, hagg]
  simp [run_load, hcell]
theorem ws_new {W w : World} {l : List Row} (M : Mem W w l) (i : Nat) {K : Act → World → Prop} {Q : Exit → Act → World → Prop} (ty : TypeId) (x y : Operand) (ho : o.op = .store ty x y)
    {g : Nat} {t : TypeId} {old : Array Value} (hl : l[i]? = some (g, t, old)) (hx : a.eval x = .pointer (some ⟨g, 0, none⟩)) (vs : Array Value) (hy : a.eval y = .agg vs)
    (hi : (Try.prog.info? ty).map (·.size) = some vs.size) (hold : old.size = vs.size) (h1 : vs.all (·.oneCell') = true) (l' : List Row) (hs : l.set i (g, t, vs) = l')
    (h : ∀ w', Mem W w' l' → K (a.put o.dst undef) w') : o.wp Try.prog a w K Q := by
  have B := M.row hl
  refine wp_store_row ty x y ho g vs hx hy t old B hi hold h1 (h _ ?_)
  rw [← hs]
  exact M.st hl (Oth.setRow w g vs) (setRow_heap w g old vs t _ B)
theorem results_cell {fn : Func} {p : Tmp} {ty : TypeId} (h : fn.results = #[.cell p ty]) {tmps : Array Value} {w : World} {g : Nat} {t : TypeId} {cs : Array Value} (hg : Blk w g t cs) {d : TypeDesc}
    (hp : tmps.getD p undef = .pointer (some ⟨g, 0, none⟩))
    (hu : Try.prog.underlying ty = some d) (hd : aggD d = true) (hi : (Try.prog.info? ty).map (·.size) = some cs.size) :
    (results fn tmps).run Try.prog w = .ok (.agg cs) w := by
  have hp' : tmps[p]?.getD undef = .pointer (some ⟨g, 0, none⟩) := by simpa using hp
  simp [results, h, hp', asAddr, run_loadVar_part w g 0 t ty cs cs d hg hu hd hi (by rw [List.drop_zero]; exact List.take_of_length_le (by simp))]

section
variable {ops : Array Oper} {Q : Exit → Act → World → Prop} {md : Region.Mode} {S : World → Prop} {i fuel : Nat} {oi : Oper} {rs : List Nat} {listed : Array Bool} {a : Act} {w : World}
theorem tk (hi : ops[i]? = some oi) (dst : Option Tmp) (hd : oi.dst = dst) {v : Value}
    (hs : Region.noSelect ops = true) (hf : Region.free md ops listed i = true) (hr : (Region.ready md ops listed).contains i = true)
    (hQ : ∀ c a w, Q (.panic c) (a.put oi.dst v) w → Q (.panic c) a w) (hy : YieldsIf Try.prog ops S oi v a) (hS : S w)
    (h : wpAnyH Try.prog md ops Q S fuel (listed.setIfInBounds i true) (a.put dst v) w) : wpAnyH Try.prog md ops Q S (fuel + 1) listed a w := by
  subst hd
  exact wpAnyH_take hi hs hf hr hQ hy hS h
theorem br_call (ho : ops[i]? = some oi) (hw : Region.wanted oi (yielded ops a.tmps) = true) (dst : Option Tmp) (hd : oi.dst = dst) {f : FuncId} {args : Array Value} {v : Value}
    (hc : Calls Try.prog f args w fun e w' => e = .returned v ∧ Below w.heap.size w w') (hrun : (execOp a.eval oi).run Try.prog w = .ok (.enter f args) w)
    (hS : ∀ w', Below w.heap.size w w' → S w')
    (h : ∀ w', Below w.heap.size w w' → wpAnyH Try.prog md ops Q S fuel (listed.setIfInBounds i true) (a.put dst v) w')
    (hs : AllReadyH Try.prog md ops Q S fuel listed a w rs) : AllReadyH Try.prog md ops Q S fuel listed a w (i :: rs) := by
  refine AllReadyH.cons ho (fun K hK => ?_) hs
  rw [if_pos hw]
  unfold Oper.wp
  rw [hrun]
  refine hc.mono ?_
  rintro e w' ⟨rfl, hb⟩
  subst hd
  exact hK.out _ _ (hS w' hb) (fun _ => h w' hb)
theorem br_alloc (ho : ops[i]? = some oi) (hw : Region.wanted oi (yielded ops a.tmps) = true) (dst : Option Tmp) (hd : oi.dst = dst) (cs : Array Value) (t : TypeId)
    (hrun : (execOp a.eval oi).run Try.prog w = .ok (.value (.pointer (some ⟨w.heap.size, 0, none⟩))) (w.alloc (.cells cs t)))
    (hS : S (w.alloc (.cells cs t)))
    (h : wpAnyH Try.prog md ops Q S fuel (listed.setIfInBounds i true) (a.put dst (.pointer (some ⟨w.heap.size, 0, none⟩))) (w.alloc (.cells cs t)))
    (hs : AllReadyH Try.prog md ops Q S fuel listed a w rs) : AllReadyH Try.prog md ops Q S fuel listed a w (i :: rs) := by
  refine AllReadyH.cons ho (fun K hK => ?_) hs
  rw [if_pos hw]
  unfold Oper.wp
  rw [hrun]
  subst hd
  exact hK.out _ _ hS (fun _ => h)
theorem br_store {W : World} {l : List Row} (M : Mem W w l) (k : Nat) (ho : ops[i]? = some oi) (hw : Region.wanted oi (yielded ops a.tmps) = true) (ty : TypeId) (x y : Operand) (hop : oi.op = .store ty x y) (hd : oi.dst = none)
    {g : Nat} {t : TypeId} {old : Array Value} (hl : l[k]? = some (g, t, old)) (hx : a.eval x = .pointer (some ⟨g, 0, none⟩)) (vs : Array Value) (hy : a.eval y = .agg vs)
    (hi : (Try.prog.info? ty).map (·.size) = some vs.size) (hold : old.size = vs.size) (h1 : vs.all (·.oneCell') = true) (l' : List Row) (hs' : l.set k (g, t, vs) = l')
    (hS : ∀ w', Mem W w' l' → S w')
    (h : ∀ w', Mem W w' l' → wpAnyH Try.prog md ops Q S fuel (listed.setIfInBounds i true) a w')
    (hs : AllReadyH Try.prog md ops Q S fuel listed a w rs) : AllReadyH Try.prog md ops Q S fuel listed a w (i :: rs) := by
  refine AllReadyH.cons ho (fun K hK => ?_) hs
  rw [if_pos hw]
  refine ws_new M k ty x y hop hl hx vs hy hi hold h1 l' hs' (fun w' M' => ?_)
  rw [hd]
  exact hK.out _ _ (hS w' M') (fun _ => h w' M')
end

section
variable {ops : Array Oper} {Q : Exit → Act → World → Prop} {o : Oper} {rest : List Oper} {a : Act} {w : World}
theorem lv (hw : Region.wanted o (yielded ops a.tmps) = true) (dst : Option Tmp) (hd : o.dst = dst) {v : Value} (hrun : (execOp a.eval o).run Try.prog w = .ok (.value v) w)
    (h : wpList Try.prog ops Q rest (a.put dst v) w) : wpList Try.prog ops Q (o :: rest) a w := by
  refine wpList_want hw fun K hK => ?_
  subst hd
  unfold Oper.wp; rw [hrun]
  exact hK _ _ h
theorem lu (hw : Region.wanted o (yielded ops a.tmps) = false) (dst : Option Tmp) (hd : o.dst = dst)
    (h : wpList Try.prog ops Q rest (a.put dst undef) w) : wpList Try.prog ops Q (o :: rest) a w := by
  subst hd
  exact wpList_step fun K hK => by rw [if_neg (by rw [hw]; decide)]; exact hK _ _ h
theorem ly {W : World} {l : List Row} (M : Mem W w l) (dst : Option Tmp) (hd : o.dst = dst) {v : Value} (hy : YieldsIf Try.prog ops (fun w' => Mem W w' l) o v a)
    (h : wpList Try.prog ops Q rest (a.put dst v) w) : wpList Try.prog ops Q (o :: rest) a w := by
  rcases hy with ⟨hw, hv⟩ | ⟨hw, rfl⟩
  · exact lv hw dst hd (hv w M) h
  · exact lu hw dst hd h
theorem l_call (hw : Region.wanted o (yielded ops a.tmps) = true) (dst : Option Tmp) (hd : o.dst = dst) {f : FuncId} {args : Array Value} {v : Value}
    (hc : Calls Try.prog f args w fun e w' => e = .returned v ∧ Below w.heap.size w w') (hrun : (execOp a.eval o).run Try.prog w = .ok (.enter f args) w)
    (h : ∀ w', Below w.heap.size w w' → wpList Try.prog ops Q rest (a.put dst v) w') : wpList Try.prog ops Q (o :: rest) a w := by
  refine wpList_want hw fun K hK => ?_
  unfold Oper.wp; rw [hrun]
  refine hc.mono ?_
  rintro e w' ⟨rfl, hb⟩
  subst hd
  exact hK _ _ (h w' hb)
theorem l_alloc (hw : Region.wanted o (yielded ops a.tmps) = true) (dst : Option Tmp) (hd : o.dst = dst) (cs : Array Value) (t : TypeId)
    (hrun : (execOp a.eval o).run Try.prog w = .ok (.value (.pointer (some ⟨w.heap.size, 0, none⟩))) (w.alloc (.cells cs t)))
    (h : wpList Try.prog ops Q rest (a.put dst (.pointer (some ⟨w.heap.size, 0, none⟩))) (w.alloc (.cells cs t))) : wpList Try.prog ops Q (o :: rest) a w := by
  refine wpList_want hw fun K hK => ?_
  unfold Oper.wp; rw [hrun]
  subst hd
  exact hK _ _ h
theorem l_store {W : World} {l : List Row} (M : Mem W w l) (k : Nat) (hw : Region.wanted o (yielded ops a.tmps) = true) (ty : TypeId) (x y : Operand) (hop : o.op = .store ty x y) (hd : o.dst = none)
    {g : Nat} {t : TypeId} {old : Array Value} (hl : l[k]? = some (g, t, old)) (hx : a.eval x = .pointer (some ⟨g, 0, none⟩)) (vs : Array Value) (hy : a.eval y = .agg vs)
    (hi : (Try.prog.info? ty).map (·.size) = some vs.size) (hold : old.size = vs.size) (h1 : vs.all (·.oneCell') = true) (l' : List Row) (hs' : l.set k (g, t, vs) = l')
    (h : ∀ w', Mem W w' l' → wpList Try.prog ops Q rest a w') : wpList Try.prog ops Q (o :: rest) a w := by
  refine ms_row M k ty x y hop hw hl hx vs hy hi hold h1 l' hs' fun w' M' => ?_
  rw [hd]; exact h w' M'
theorem l_cell {W : World} {l : List Row} (M : Mem W w l) (k : Nat) (hw : Region.wanted o (yielded ops a.tmps) = true) (ty : TypeId) (x y : Operand) (hop : o.op = .store ty x y) (hd : o.dst = none)
    {g : Nat} {t : TypeId} {old : Array Value} (hl : l[k]? = some (g, t, old)) (j : Nat) (hx : a.eval x = .pointer (some ⟨g, j, none⟩)) (v : Value) (hy : a.eval y = v)
    (hi : (Try.prog.info? ty).map (·.size) = some 1) (hlt : decide (j < old.size) = true) (h1 : v.oneCell' = true) (hc : v.cells = #[v]) (new : Array Value) (hn : old.setIfInBounds j v = new)
    (l' : List Row) (hs' : l.set k (g, t, new) = l')
    (h : ∀ w', Mem W w' l' → wpList Try.prog ops Q rest a w') : wpList Try.prog ops Q (o :: rest) a w := by
  refine ms_cell M k ty x y hop hw hl j hx v hy hi hlt h1 hc new hn l' hs' fun w' M' => ?_
  rw [hd]; exact h w' M'
end

def hA : Nat → Int := fun k => [192, 0, 2, 33].getD k 0
def wA : Nat → Int := fun k => [0, 100, 255, 155].getD k 0
def xA : Nat → Int := fun k => [0, 100, 255, 155, 0, 0, 0, 0, 0, 0, 0, 0, 192, 0, 2, 33].getD k 0
theorem right_well : RightP wA 96 := by
  refine ⟨by unfold LenOk; omega, fun j hj h => ?_⟩
  match j, hj with
  | 0, _ => exact absurd h (by omega)
  | 1, _ => exact absurd h (by omega)
  | 2, _ => exact absurd h (by omega)
  | 3, _ => exact absurd h (by omega)
  | j + 4, _ => simp [wA]
theorem bytes_w : Bytes 16 wA := by
  intro j hj
  match j, hj with
  | 0, _ => simp [wA]
  | 1, _ => simp [wA]
  | 2, _ => simp [wA]
  | 3, _ => simp [wA]
  | j + 4, _ => simp [wA]
theorem bytes_h : Bytes 4 hA := by
  intro j hj
  match j, hj with
  | 0, _ => simp [hA]
  | 1, _ => simp [hA]
  | 2, _ => simp [hA]
  | 3, _ => simp [hA]
  | j + 4, h => exact absurd h (by omega)
theorem emb_well : EqTo (emb wA hA 96) xA 16 := by
  intro j hj
  match j, hj with
  | 0, _ => rfl
  | 1, _ => rfl
  | 2, _ => rfl
  | 3, _ => rfl
  | 4, _ => rfl
  | 5, _ => rfl
  | 6, _ => rfl
  | 7, _ => rfl
  | 8, _ => rfl
  | 9, _ => rfl
  | 10, _ => rfl
  | 11, _ => rfl
  | 12, _ => rfl
  | 13, _ => rfl
  | 14, _ => rfl
  | 15, _ => rfl
  | j + 16, h => exact absurd h (by omega)
theorem host_any (w : World) : Calls Try.prog 11 #[] w fun e w' => e = .returned (.agg (a4 hA)) ∧ Below w.heap.size w w' := by
  go_enter Try.func11, Try.ntmps11
  go_wp2_with (refine ms_new (Mem.start w) 31 (.tmp 0) _ rfl rfl 31 _ rfl (a4 hA) rfl (by kernel_rfl) rfl (by kernel_rfl) _ rfl ?_; intro w1 M)
  exact bodyPost_ret (v := .agg (a4 hA)) (results_cell rfl (M.row (i := 0) rfl) rfl Try.underlying31 rfl (by kernel_rfl)) rfl ⟨rfl, M.below⟩
theorem well_any (w : World) : Calls Try.prog 13 #[] w fun e w' => e = .returned (net wA 96) ∧ Below w.heap.size w w' := by
  go_enter Try.func13, Try.ntmps13
  go_wp2_with (refine ms_new (Mem.start w) 26 (.tmp 0) _ rfl rfl 26 _ rfl #[.int .u8 (wA 0), .int .u8 (wA 1), .int .u8 (wA 2), .int .u8 (wA 3), .int .u8 (wA 4), .int .u8 (wA 5), .int .u8 (wA 6), .int .u8 (wA 7), .int .u8 (wA 8), .int .u8 (wA 9), .int .u8 (wA 10), .int .u8 (wA 11), .int .u8 (wA 12), .int .u8 (wA 13), .int .u8 (wA 14), .int .u8 (wA 15), .int .i64 96] rfl (by kernel_rfl) rfl (by kernel_rfl) _ rfl ?_; intro w1 M)
  exact bodyPost_ret (v := net wA 96) (results_cell rfl (M.row (i := 0) rfl) rfl Try.underlying26 rfl (by kernel_rfl)) rfl ⟨rfl, M.below⟩
end Go.Proofs.Ytafonnelennlhaa
