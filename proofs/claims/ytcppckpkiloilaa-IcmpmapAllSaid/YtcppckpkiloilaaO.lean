/-
  Contract of the reference's lines6: it hands back 18 lines. No condition.
-/
import Derived.Test.YtcppckpkiloilaaN
import Derived.Maps.AppendAt
namespace Go.Proofs.Ytcppckpkiloilaa
open Go.RowKit
set_option linter.unusedSimpArgs false

def T6 (r : Int) : List Line := [⟨8, 0, 128, 0, r⟩, ⟨0, 0, 129, 0, r⟩, ⟨3, 3, 1, 4, 0⟩, ⟨3, 2, 4, 1, 6⟩, ⟨11, 0, 3, 0, 0⟩, ⟨11, 1, 3, 1, 0⟩]
def zv (j : Nat) : Int := ([0, 1, 5, 6, 7, 8, 11, 12] : List Int).getD j 0
def ov (j : Nat) : Int := ([9, 10, 13, 15] : List Int).getD j 0
def L1 (r : Int) : Nat → List Line
  | 0 => T6 r
  | j + 1 => L1 r j ++ [⟨3, zv j, 1, 0, 0⟩]
def L2 (r : Int) : Nat → List Line
  | 0 => L1 r 8
  | j + 1 => L2 r j ++ [⟨3, ov j, 1, 1, 0⟩]
theorem L1_succ (r : Int) (j : Nat) : rows (L1 r (j + 1)) = rows (L1 r j) ++ [.int .i64 3, .int .i64 (zv j), .int .i64 1, .int .i64 0, .int .i64 0] := by
  rw [L1, rows_append]; rfl
theorem L2_succ (r : Int) (j : Nat) : rows (L2 r (j + 1)) = rows (L2 r j) ++ [.int .i64 3, .int .i64 (ov j), .int .i64 1, .int .i64 1, .int .i64 0] := by
  rw [L2, rows_append]; rfl
theorem L2_len (r : Int) : (L2 r 4).length = 18 := rfl
theorem Try.info43 : (Try.prog.info? 43).map (fun i => (i.zero, i.size, i.bytes)) = some (some (.agg #[.int .i64 0, .int .i64 0, .int .i64 0, .int .i64 0, .int .i64 0]), 5, 40) := by kernel_rfl
theorem blk_cell {w : World} {g : Nat} {t : TypeId} {cs : Array Value} (h : w.heap[g]? = some (.cells cs t)) {i : Nat} {v : Value} (hi : cs[i]? = some v) : w.cell? ⟨g, i, none⟩ = some v := by
  unfold World.cell?
  rw [h]
  exact hi
abbrev tz : Array Value := #[.int .i64 0, .int .i64 1, .int .i64 5, .int .i64 6, .int .i64 7, .int .i64 8, .int .i64 11, .int .i64 12]
abbrev to : Array Value := #[.int .i64 9, .int .i64 10, .int .i64 13, .int .i64 15]
theorem tz_at {j : Nat} (h : j < 8) : tz[j]? = some (.int .i64 (zv j)) := by
  have h : j = 0 ∨ j = 1 ∨ j = 2 ∨ j = 3 ∨ j = 4 ∨ j = 5 ∨ j = 6 ∨ j = 7 := by omega
  rcases h with rfl | rfl | rfl | rfl | rfl | rfl | rfl | rfl <;> rfl
theorem to_at {j : Nat} (h : j < 4) : to[j]? = some (.int .i64 (ov j)) := by
  have h : j = 0 ∨ j = 1 ∨ j = 2 ∨ j = 3 := by omega
  rcases h with rfl | rfl | rfl | rfl <;> rfl
theorem own_ne {w : World} {base n z : Nat} {v : Value} {xs : List Value} {cs : Array Value} (h : w.ownsRow base 43 5 v (n + 1) xs) (hz : w.heap[z]? = some (.cells cs 3)) : some z ≠ v.ownBlock := by
  obtain ⟨_, h | ⟨g, cap, cur, rfl, _, hg, _⟩⟩ := h
  · exact absurd h.2 (by omega)
  · intro he
    simp only [Value.ownBlock, Option.some.injEq] at he
    subst he
    rw [hz] at hg
    simp at hg
theorem five_new (w : World) (a b c d e : Value) : ∀ j u, [a, b, c, d, e][j]? = some u → (w.alloc (.cells #[a, b, c, d, e] 43)).cell? (Addr.add ⟨w.heap.size, 0, none⟩ j) = some u := by
  intro j u h
  have hb : (w.alloc (.cells #[a, b, c, d, e] 43)).heap[w.heap.size]? = some (.cells #[a, b, c, d, e] 43) := (MapKept.heap_alloc w _).1
  have := blk_cell hb (i := j) (v := u) (by simpa using h)
  rcases j with _ | j
  · exact this
  · show World.cell? _ (if j + 1 = 0 then _ else _) = _
    rw [if_neg (by omega)]
    simpa only [Nat.zero_add] using this

set_option maxRecDepth 100000 in
set_option maxHeartbeats 4000000 in
theorem lines6_any (r : Int) (w : World) : Calls Try.prog 26 #[.int .i64 r] w fun e w' => ∃ g cap, e = .returned (.slice (some ⟨g, 0, none⟩) 18 cap) ∧ g < w'.heap.size ∧ (∀ i v, (rows (L2 r 4))[i]? = some v → w'.cell? ⟨g, i, none⟩ = some v) ∧ Below w.heap.size w w' := by
  obtain ⟨i0, hi, hz0, hz1, hz2⟩ := info_parts Try.info43
  go_enter Try.func26, Try.ntmps26
  go_wp2
  go_loopw [3, 5] (fun s i wr => ∃ j : Nat, j ≤ 8 ∧ i = .int .i64 j ∧ wr.ownsRow w.heap.size 43 5 s (5 + j + 1) (rows (L1 r j)) ∧ Below w.heap.size w wr ∧ wr.heap[w.heap.size + 1]? = some (.cells tz 3)) (fun _ i _ => 8 - (intOf i).toNat)
  case atStart =>
    refine ⟨0, Nat.zero_le _, rfl, ?_, ((Below.refl _ _).alloc (Nat.le_refl _) _).alloc (by simp) _, ?_⟩
    · refine World.ownsRow.alloc ?_ _
      refine ⟨rfl, .inr ⟨w.heap.size, 6, _, rfl, Nat.le_refl _, (MapKept.heap_alloc w _).1, by omega, by unfold maxLen; omega, rfl, rfl⟩⟩
    · have h := (MapKept.heap_alloc (w.alloc (.cells (rows (T6 r)).toArray 43)) (.cells tz 3)).1
      simpa [rows, T6, Line.cells] using h
  case round =>
    obtain ⟨j, hj, rfl, hown, hB, hz⟩ := hrel
    have hsize := hB.size
    have hzl : w.heap.size + 1 < wr.heap.size := (Array.getElem?_eq_some_iff.1 hz).1
    by_cases hlt : j < 8
    · have c0 := blk_cell hz (tz_at hlt)
      have hne := own_ne hown hz
      have hL := L1_succ r j
      generalize zv j = x at *
      go_wp2_with (first
        | (at_builtin; refine wpList_append_own _ rfl _ _ 46 rfl w.heap.size 43 i0 (.agg #[.int .i64 0, .int .i64 0, .int .i64 0, .int .i64 0, .int .i64 0]) 5 40 Try.underlying46 hi hz0 hz1 hz2 rfl (by decide) _ _ _ rfl (hown.alloc _) ⟨wr.heap.size, 0, none⟩ 1 1 [.int .i64 3, .int .i64 x, .int .i64 1, .int .i64 0, .int .i64 0] rfl rfl (five_new _ _ _ _ _ _) (by intro u hu; simp at hu; rcases hu with rfl | rfl | rfl | rfl | rfl <;> rfl) (by unfold maxLen; omega) (by omega) (by simp; omega) ?_; intro v1 w1 hown1 hgrow1 hnil1))
      go_roundw
      case rel =>
        exact ⟨j + 1, by omega, by go_num, by rw [hL]; exact hown1, (hB.alloc (by omega) _).grown hgrow1 (by simp; omega) (fun k hk => (hown.lt k hk).1),
          (hgrow1.block _ (by simp; omega) hne).trans ((Below.heap_alloc wr _ _ hzl).trans hz)⟩
      case measure => simp [intOf]; omega
    · have hj8 : j = 8 := by omega
      have hc8 : ((j : Nat) : Int) = 8 := by omega
      rw [hc8]
      clear hc8
      subst hj8
      obtain ⟨wf, hwf⟩ : ∃ wf, wf = wr := ⟨_, rfl⟩
      subst hwf
      go_wp2
      go_loopw [3, 7] (fun s i wx => ∃ j : Nat, j ≤ 4 ∧ i = .int .i64 j ∧ wx.ownsRow w.heap.size 43 5 s (13 + j + 1) (rows (L2 r j)) ∧ Below w.heap.size w wx ∧ wx.heap[wf.heap.size]? = some (.cells to 3)) (fun _ i _ => 4 - (intOf i).toNat)
      case atStart => exact ⟨0, Nat.zero_le _, rfl, hown.alloc _, hB.alloc hsize _, (MapKept.heap_alloc wf _).1⟩
      case round =>
        clear hown hB hz
        obtain ⟨m, hm, rfl, hown, hB, hz⟩ := hrel
        have hsize := hB.size
        have hzl : wf.heap.size < wr.heap.size := (Array.getElem?_eq_some_iff.1 hz).1
        by_cases hlt : m < 4
        · have c0 := blk_cell hz (to_at hlt)
          have hne := own_ne hown hz
          have hL := L2_succ r m
          generalize ov m = x at *
          go_wp2_with (first
            | (at_builtin; refine wpList_append_own _ rfl _ _ 46 rfl w.heap.size 43 i0 (.agg #[.int .i64 0, .int .i64 0, .int .i64 0, .int .i64 0, .int .i64 0]) 5 40 Try.underlying46 hi hz0 hz1 hz2 rfl (by decide) _ _ _ rfl (hown.alloc _) ⟨wr.heap.size, 0, none⟩ 1 1 [.int .i64 3, .int .i64 x, .int .i64 1, .int .i64 1, .int .i64 0] rfl rfl (five_new _ _ _ _ _ _) (by intro u hu; simp at hu; rcases hu with rfl | rfl | rfl | rfl | rfl <;> rfl) (by unfold maxLen; omega) (by omega) (by simp; omega) ?_; intro v1 w1 hown1 hgrow1 hnil1))
          go_roundw
          case rel =>
            exact ⟨m + 1, by omega, by go_num, by rw [hL]; exact hown1, (hB.alloc (by omega) _).grown hgrow1 (by simp; omega) (fun k hk => (hown.lt k hk).1),
              (hgrow1.block _ (by simp; omega) hne).trans ((Below.heap_alloc wr _ _ hzl).trans hz)⟩
          case measure => simp [intOf]; omega
        · have hm4 : m = 4 := by omega
          subst hm4
          obtain ⟨hlen, h | ⟨g, cap, cur, rfl, hgb, hg, hn, hcap, hsz, htake⟩⟩ := hown
          · exact absurd h.2 (by omega)
          · go_wp2
            go_ret
            refine ⟨g, cap, rfl, (Array.getElem?_eq_some_iff.1 hg).1, ?_, hB⟩
            intro i v hv
            refine blk_cell hg ?_
            rw [← htake] at hv
            rw [List.getElem?_take] at hv
            split at hv
            · simpa using hv
            · cases hv
end Go.Proofs.Ytcppckpkiloilaa
