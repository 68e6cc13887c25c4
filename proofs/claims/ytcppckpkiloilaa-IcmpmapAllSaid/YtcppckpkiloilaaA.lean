/-
  Contracts of icmpmap's small functions: sides, said, pointer6, pointer4, Plateau. Conditions stand in each statement.
-/
import Derived.Test.YtcppckpkiloilaaProg
import Derived.WalkKit
import Derived.WalkSpells
import Derived.WalkLawsBesides
import Derived.KernelRfl
import Derived.LoopN
import Derived.Lib.Hide
import Derived.Handy
namespace Go.Proofs.Ytcppckpkiloilaa
open Go.RowKit

def Sides (a b : Int) : Prop := 68 ≤ a ∧ a ≤ 65535 ∧ 1280 ≤ b ∧ b ≤ 65575
set_option maxHeartbeats 400000 in
theorem sides_t (a b : Int) (w : World) (h : Sides a b) : Calls Try.prog 18 #[.int .i64 a, .int .i64 b] w fun e w' => e = .returned (.bool true) ∧ w = w' := by
  obtain ⟨h1, h2, h3, h4⟩ := h
  go_enter Try.func18, Try.ntmps18
  go_wp2
  go_ret
  exact ⟨rfl, rfl⟩
set_option maxHeartbeats 400000 in
theorem sides_f (a b : Int) (w : World) (h : ¬ Sides a b) : Calls Try.prog 18 #[.int .i64 a, .int .i64 b] w fun e w' => e = .returned (.bool false) ∧ w = w' := by
  unfold Sides at h
  by_cases h1 : 68 ≤ a
  · by_cases h2 : a ≤ 65535
    · by_cases h3 : 1280 ≤ b
      · have h4 : decide (b ≤ 65575) = false := by simp; omega
        clear h
        go_enter Try.func18, Try.ntmps18
        go_wp2
        go_ret
        exact ⟨rfl, rfl⟩
      · clear h
        go_enter Try.func18, Try.ntmps18
        go_wp2
        go_ret
        exact ⟨rfl, rfl⟩
    · clear h
      go_enter Try.func18, Try.ntmps18
      go_wp2
      go_ret
      exact ⟨rfl, rfl⟩
  · clear h
    go_enter Try.func18, Try.ntmps18
    go_wp2
    go_ret
    exact ⟨rfl, rfl⟩

/-- A message, or none, as it is handed back. -/
def retM : Option (Int × Int × Int) → ByteArray → Value
  | some (x, y, z), d => .tuple #[.agg #[.int .i64 x, .int .i64 y, .int .u32 z, .string d], .bool true]
  | none, _ => .tuple #[.agg #[.int .i64 0, .int .i64 0, .int .u32 0, .string ⟨#[]⟩], .bool false]
set_option maxHeartbeats 400000 in
theorem said_any (k c r : Int) (d : ByteArray) (x y z : Int) (w : World) :
    Calls Try.prog 19 #[.agg #[.int .i64 k, .int .i64 c, .int .u32 r, .string d], .int .i64 x, .int .i64 y, .int .i64 z] w fun e w' => e = .returned (.tuple #[.agg #[.int .i64 x, .int .i64 y, .int .u32 (z % 4294967296), .string d], .bool true]) ∧ Below w.heap.size w w' := by
  go_enter Try.func19, Try.ntmps19
  go_wp2
  exact bodyPost_ret (v := .tuple #[.agg #[.int .i64 x, .int .i64 y, .int .u32 (z % 4294967296), .string d], .bool true]) (by simp [results, Try.results19, go_sem]) rfl ⟨rfl, ((Below.refl _ _).alloc (Nat.le_refl _) _).alloc (by simp) _⟩

/-- A pointer of IPv4's head as one of IPv6's. -/
def p6 (n : Int) : Option Int :=
  if n = 0 ∨ n = 1 then some n else if n = 2 ∨ n = 3 then some 4 else if n = 8 then some 7 else if n = 9 then some 6
  else if 12 ≤ n ∧ n ≤ 15 then some 8 else if 16 ≤ n ∧ n ≤ 19 then some 24 else none
/-- A pointer of IPv6's head as one of IPv4's. -/
def p4 (n : Int) : Option Int :=
  if n = 0 ∨ n = 1 then some n else if n = 4 ∨ n = 5 then some 2 else if n = 6 then some 9 else if n = 7 then some 8
  else if 8 ≤ n ∧ n ≤ 23 then some 12 else if 24 ≤ n ∧ n ≤ 39 then some 16 else none
def retP : Option Int → Value
  | some x => .tuple #[.int .i64 x, .bool true]
  | none => .tuple #[.int .i64 0, .bool false]
set_option maxHeartbeats 4000000 in
theorem pointer6_any (n : Int) (w : World) : Calls Try.prog 21 #[.int .i64 n] w fun e w' => e = .returned (retP (p6 n)) ∧ w = w' := by
  have hn : n = 0 ∨ n = 1 ∨ n = 2 ∨ n = 3 ∨ n = 8 ∨ n = 9 ∨ (12 ≤ n ∧ n ≤ 15) ∨ (16 ≤ n ∧ n ≤ 19) ∨ n < 0 ∨ (4 ≤ n ∧ n ≤ 7) ∨ (10 ≤ n ∧ n ≤ 11) ∨ 20 ≤ n := by omega
  obtain ⟨r, hr⟩ : ∃ r, retP (p6 n) = r := ⟨_, rfl⟩
  rw [hr]
  unfold p6 at hr
  rcases hn with rfl | rfl | rfl | rfl | rfl | rfl | hn | hn | hn | hn | hn | hn
  case _ => simp [retP] at hr; subst hr; go_enter Try.func21, Try.ntmps21; go_wp2; go_ret2; exact ⟨rfl, rfl⟩
  case _ => simp [retP] at hr; subst hr; go_enter Try.func21, Try.ntmps21; go_wp2; go_ret2; exact ⟨rfl, rfl⟩
  case _ => simp [retP] at hr; subst hr; go_enter Try.func21, Try.ntmps21; go_wp2; go_ret2; exact ⟨rfl, rfl⟩
  case _ => simp [retP] at hr; subst hr; go_enter Try.func21, Try.ntmps21; go_wp2; go_ret2; exact ⟨rfl, rfl⟩
  case _ => simp [retP] at hr; subst hr; go_enter Try.func21, Try.ntmps21; go_wp2; go_ret2; exact ⟨rfl, rfl⟩
  case _ => simp [retP] at hr; subst hr; go_enter Try.func21, Try.ntmps21; go_wp2; go_ret2; exact ⟨rfl, rfl⟩
  all_goals
    first | rw [if_neg (by omega), if_neg (by omega), if_neg (by omega), if_neg (by omega), if_pos (by omega)] at hr | rw [if_neg (by omega), if_neg (by omega), if_neg (by omega), if_neg (by omega), if_neg (by omega), if_pos (by omega)] at hr | rw [if_neg (by omega), if_neg (by omega), if_neg (by omega), if_neg (by omega), if_neg (by omega), if_neg (by omega)] at hr
    subst hr
    have e0 : (n == 0) = false := by simp; omega
    have e1 : (n == 1) = false := by simp; omega
    have e2 : (n == 2) = false := by simp; omega
    have e3 : (n == 3) = false := by simp; omega
    have e8 : (n == 8) = false := by simp; omega
    have e9 : (n == 9) = false := by simp; omega
    go_enter Try.func21, Try.ntmps21
    go_wp2
    go_ret2
    exact ⟨rfl, rfl⟩
set_option maxHeartbeats 4000000 in
theorem pointer4_any (n : Int) (w : World) (hu : 0 ≤ n) (hu' : n < 4294967296) : Calls Try.prog 23 #[.int .u32 n] w fun e w' => e = .returned (retP (p4 n)) ∧ w = w' := by
  have hn : n = 0 ∨ n = 1 ∨ n = 4 ∨ n = 5 ∨ n = 6 ∨ n = 7 ∨ (8 ≤ n ∧ n ≤ 23) ∨ (24 ≤ n ∧ n ≤ 39) ∨ (2 ≤ n ∧ n ≤ 3) ∨ 40 ≤ n := by omega
  obtain ⟨r, hr⟩ : ∃ r, retP (p4 n) = r := ⟨_, rfl⟩
  rw [hr]
  unfold p4 at hr
  rcases hn with rfl | rfl | rfl | rfl | rfl | rfl | hn | hn | hn | hn
  case _ => simp [retP] at hr; subst hr; go_enter Try.func23, Try.ntmps23; go_wp2; go_ret2; exact ⟨rfl, rfl⟩
  case _ => simp [retP] at hr; subst hr; go_enter Try.func23, Try.ntmps23; go_wp2; go_ret2; exact ⟨rfl, rfl⟩
  case _ => simp [retP] at hr; subst hr; go_enter Try.func23, Try.ntmps23; go_wp2; go_ret2; exact ⟨rfl, rfl⟩
  case _ => simp [retP] at hr; subst hr; go_enter Try.func23, Try.ntmps23; go_wp2; go_ret2; exact ⟨rfl, rfl⟩
  case _ => simp [retP] at hr; subst hr; go_enter Try.func23, Try.ntmps23; go_wp2; go_ret2; exact ⟨rfl, rfl⟩
  case _ => simp [retP] at hr; subst hr; go_enter Try.func23, Try.ntmps23; go_wp2; go_ret2; exact ⟨rfl, rfl⟩
  all_goals
    first | rw [if_neg (by omega), if_neg (by omega), if_neg (by omega), if_neg (by omega), if_pos (by omega)] at hr | rw [if_neg (by omega), if_neg (by omega), if_neg (by omega), if_neg (by omega), if_neg (by omega), if_pos (by omega)] at hr | rw [if_neg (by omega), if_neg (by omega), if_neg (by omega), if_neg (by omega), if_neg (by omega), if_neg (by omega)] at hr
    subst hr
    have e0 : (n == 0) = false := by simp; omega
    have e1 : (n == 1) = false := by simp; omega
    have e4 : (n == 4) = false := by simp; omega
    have e5 : (n == 5) = false := by simp; omega
    have e6 : (n == 6) = false := by simp; omega
    have e7 : (n == 7) = false := by simp; omega
    go_enter Try.func23, Try.ntmps23
    go_wp2
    go_ret2
    exact ⟨rfl, rfl⟩
end Go.Proofs.Ytcppckpkiloilaa
