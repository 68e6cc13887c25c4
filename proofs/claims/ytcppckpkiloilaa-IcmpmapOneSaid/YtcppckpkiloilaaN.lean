/-
  Contracts of the reference's bounds, find. Conditions stand in each statement.
-/
import Derived.Test.YtcppckpkiloilaaG
import Derived.Deep.RegionHeld3
import Derived.Deep.LoopGhost
import Derived.Deep.QuietTactic
import Derived.BigQuiet
import Derived.RegionTactic
namespace Go.Proofs.Ytcppckpkiloilaa
open Go.RowKit
set_option linter.unusedSimpArgs false

set_option maxHeartbeats 400000 in
theorem rbounds_t (a b : Int) (w : World) (h : Sides a b) : Calls Try.prog 24 #[.int .i64 a, .int .i64 b] w fun e w' => e = .returned (.bool true) ∧ w = w' := by
  obtain ⟨h1, h2, h3, h4⟩ := h
  go_enter Try.func24, Try.ntmps24
  go_wp2
  go_ret
  exact ⟨rfl, rfl⟩
set_option maxHeartbeats 400000 in
theorem rbounds_f (a b : Int) (w : World) (h : ¬ Sides a b) : Calls Try.prog 24 #[.int .i64 a, .int .i64 b] w fun e w' => e = .returned (.bool false) ∧ w = w' := by
  unfold Sides at h
  by_cases h1 : 68 ≤ a
  · by_cases h2 : a ≤ 65535
    · by_cases h3 : 1280 ≤ b
      · have h4 : decide (b ≤ 65575) = false := by simp; omega
        clear h
        go_enter Try.func24, Try.ntmps24
        go_wp2
        go_ret
        exact ⟨rfl, rfl⟩
      · clear h
        go_enter Try.func24, Try.ntmps24
        go_wp2
        go_ret
        exact ⟨rfl, rfl⟩
    · clear h
      go_enter Try.func24, Try.ntmps24
      go_wp2
      go_ret
      exact ⟨rfl, rfl⟩
  · clear h
    go_enter Try.func24, Try.ntmps24
    go_wp2
    go_ret
    exact ⟨rfl, rfl⟩

/-- The lines of a table of the reference: kind, code, and what they become. -/
structure Line where
  k : Int
  c : Int
  t : Int
  n : Int
  r : Int
def Line.cells (l : Line) : List Value := [.int .i64 l.k, .int .i64 l.c, .int .i64 l.t, .int .i64 l.n, .int .i64 l.r]
def rows : List Line → List Value
  | [] => []
  | l :: ls => l.cells ++ rows ls
/-- The first line of a message. -/
def fnd (k c : Int) : List Line → Option (Int × Int × Int)
  | [] => none
  | l :: ls => if l.k = k ∧ l.c = c then some (l.t, l.n, l.r) else fnd k c ls
def retL (k c : Int) : Option (Int × Int × Int) → Value
  | some (t, n, r) => .tuple #[.agg #[.int .i64 k, .int .i64 c, .int .i64 t, .int .i64 n, .int .i64 r], .bool true]
  | none => .tuple #[.agg #[.int .i64 0, .int .i64 0, .int .i64 0, .int .i64 0, .int .i64 0], .bool false]
theorem rows_at : ∀ (ls : List Line) (i : Nat) (hi : i < ls.length), (rows ls)[i * 5]? = some (.int .i64 ls[i].k) ∧ (rows ls)[i * 5 + 1]? = some (.int .i64 ls[i].c) ∧ (rows ls)[i * 5 + 2]? = some (.int .i64 ls[i].t) ∧ (rows ls)[i * 5 + 3]? = some (.int .i64 ls[i].n) ∧ (rows ls)[i * 5 + 4]? = some (.int .i64 ls[i].r)
  | [], i, hi => by simp at hi
  | l :: ls, 0, _ => by simp [rows, Line.cells]
  | l :: ls, i + 1, hi => by
    have h := rows_at ls i (by simpa using hi)
    have e : ∀ j, (rows (l :: ls))[(i + 1) * 5 + j]? = (rows ls)[i * 5 + j]? := by
      intro j
      rw [rows, List.getElem?_append_right (by simp [Line.cells]; omega)]
      congr 1
      simp [Line.cells]; omega
    have e0 := e 0
    simp only [Nat.add_zero] at e0
    rw [e0, e 1, e 2, e 3, e 4]
    simpa using h
theorem rows_append : ∀ (a b : List Line), rows (a ++ b) = rows a ++ rows b
  | [], b => rfl
  | l :: a, b => by simp [rows, rows_append a b]
theorem fnd_drop (k c : Int) (ls : List Line) (i : Nat) (hi : i < ls.length) : fnd k c (ls.drop i) = if ls[i].k = k ∧ ls[i].c = c then some (ls[i].t, ls[i].n, ls[i].r) else fnd k c (ls.drop (i + 1)) := by
  rw [List.drop_eq_getElem_cons hi, fnd]

abbrev W0 (w : World) (k c r : Int) (d : ByteArray) : World := (w.alloc (.cells #[.int .i64 k, .int .i64 c, .int .u32 r, .string d] 26)).alloc (.cells #[.int .i64 0, .int .i64 0, .int .i64 0, .int .i64 0, .int .i64 0] 43)
theorem W0_below (w : World) (k c r : Int) (d : ByteArray) : Below w.heap.size w (W0 w k c r d) := ((Below.refl _ _).alloc (Nat.le_refl _) _).alloc (by simp) _
theorem W0_msg (w : World) (k c r : Int) (d : ByteArray) : (W0 w k c r d).cell? ⟨w.heap.size, 0, none⟩ = some (.int .i64 k) ∧ (W0 w k c r d).cell? ⟨w.heap.size, 1, none⟩ = some (.int .i64 c) := by
  have h := ((Blk.new w #[.int .i64 k, .int .i64 c, .int .u32 r, .string d]).alloc (.cells #[.int .i64 0, .int .i64 0, .int .i64 0, .int .i64 0, .int .i64 0] 43)).four
  exact ⟨h.1, h.2.1⟩
set_option maxRecDepth 100000 in
set_option maxHeartbeats 4000000 in
theorem find_any (g cap : Nat) (ls : List Line) (k c r : Int) (d : ByteArray) (w : World) (hg : g < w.heap.size) (hl : ls.length ≤ 100)
    (hc : ∀ i v, (rows ls)[i]? = some v → w.cell? ⟨g, i, none⟩ = some v) :
    Calls Try.prog 25 #[.slice (some ⟨g, 0, none⟩) ls.length cap, msgV k c r d] w fun e w' => e = .returned (retL k c (fnd k c ls)) ∧ Below w.heap.size w w' := by
  have HC := Lib.hid hc
  have HG := Lib.hid hg
  clear hc
  obtain ⟨n, hn⟩ : ∃ n, ls.length = n := ⟨_, rfl⟩
  rw [hn] at hl ⊢
  have HN := Lib.hid hn
  clear hn
  go_enter Try.func25, Try.ntmps25
  go_wp2
  go_loopw [6] (fun i wr => ∃ j : Nat, j ≤ n ∧ i = .int .i64 j ∧ fnd k c ls = fnd k c (ls.drop j) ∧ Below (W0 w k c r d).heap.size (W0 w k c r d) wr) (fun i _ => n - (intOf i).toNat)
  case atStart => exact ⟨0, Nat.zero_le _, rfl, rfl, Below.refl _ _⟩
  case round =>
    obtain ⟨i, hi, rfl, hf, hB⟩ := hrel
    have hB' := Lib.hid hB
    have hf' := Lib.hid hf
    have hgW : g < (W0 w k c r d).heap.size := by have := HG.out; simp [W0]; omega
    have hgW' := Lib.hid hgW
    clear hf hg
    by_cases hlt : i < n
    · have hlt' : i < ls.length := by rw [HN.out]; exact hlt
      have hdrop := fnd_drop k c ls i hlt'
      obtain ⟨a0, a1, a2, a3, a4⟩ := rows_at ls i hlt'
      have m0 : wr.cell? ⟨w.heap.size, 0, none⟩ = some (.int .i64 k) := (hB.cell (p := ⟨w.heap.size, 0, none⟩) (by simp [W0]; omega)).trans (W0_msg w k c r d).1
      have m1 : wr.cell? ⟨w.heap.size, 1, none⟩ = some (.int .i64 c) := (hB.cell (p := ⟨w.heap.size, 1, none⟩) (by simp [W0]; omega)).trans (W0_msg w k c r d).2
      have up : ∀ j v, w.cell? ⟨g, j, none⟩ = some v → wr.cell? ⟨g, j, none⟩ = some v := fun j v h => (hB.cell (p := ⟨g, j, none⟩) hgW).trans ((W0_below w k c r d).cell (p := ⟨g, j, none⟩) HG.out |>.trans h)
      have c0 := up _ _ (HC.out _ _ a0)
      have c1 := up _ _ (HC.out _ _ a1)
      have c2 := up _ _ (HC.out _ _ a2)
      have c3 := up _ _ (HC.out _ _ a3)
      have c4 := up _ _ (HC.out _ _ a4)
      clear a0 a1 a2 a3 a4 up hgW
      generalize ls[i].k = xk at *
      generalize ls[i].c = xc at *
      generalize ls[i].t = xt at *
      generalize ls[i].n = xn at *
      generalize ls[i].r = xr at *
      by_cases hk : xk = k
      · by_cases hcc : xc = c
        · have hend : Hid (fnd k c ls = some (xt, xn, xr)) := Lib.hid (by rw [hf'.out, hdrop, if_pos ⟨hk, hcc⟩])
          clear hdrop hB
          rw [hk] at c0
          rw [hcc] at c1
          clear hk hcc
          have e1 : (k == k) = true := beq_self_eq_true k
          have e2 : (c == c) = true := beq_self_eq_true c
          go_wp2
          go_quiet (fail)
          obtain ⟨hc2, hf2⟩ := bcell hB'.out
          go_wp2
          refine bodyPost_ret (v := retL k c (some (xt, xn, xr))) (by simp [results, Try.results25, go_sem, hc2, retL]) rfl ⟨by rw [hend.out], ?_⟩
          have HB := (W0_below w k c r d).trans (hB'.out.mono (W0_below w k c r d).size)
          go_grown
          exact below_drewN HB _
        · have hnx : Hid (fnd k c ls = fnd k c (ls.drop (i + 1))) := Lib.hid (by rw [hf'.out, hdrop, if_neg (fun h => hcc h.2)])
          have hcb : (xc == c) = false := by simpa using hcc
          rw [hk] at c0
          clear hk hcc hdrop hB
          have e1 : (k == k) = true := beq_self_eq_true k
          go_wp2
          go_quiet (fail)
          go_wp2
          go_roundw
          case rel => exact ⟨i + 1, by omega, by go_num, hnx.out, below_drewN hB'.out _⟩
          case measure => simp [intOf]; omega
      · have hnx : Hid (fnd k c ls = fnd k c (ls.drop (i + 1))) := Lib.hid (by rw [hf'.out, hdrop, if_neg (fun h => hk h.1)])
        have hkb : (xk == k) = false := by simpa using hk
        clear hk hdrop hB
        go_wp2
        go_quiet (fail)
        go_wp2
        go_roundw
        case rel => exact ⟨i + 1, by omega, by go_num, hnx.out, below_drewN hB'.out _⟩
        case measure => simp [intOf]; omega
    · have hin : i = n := by omega
      have hend : Hid (fnd k c ls = none) := Lib.hid (by rw [hf'.out, List.drop_of_length_le (by rw [HN.out]; omega), fnd])
      subst hin
      obtain ⟨hc2, hf2⟩ := bcell hB
      clear hB
      go_wp2
      refine bodyPost_ret (v := retL k c none) (by simp [results, Try.results25, go_sem, hc2, retL]) rfl ⟨by rw [hend.out], ?_⟩
      have HB := (W0_below w k c r d).trans (hB'.out.mono (W0_below w k c r d).size)
      go_grown
end Go.Proofs.Ytcppckpkiloilaa
