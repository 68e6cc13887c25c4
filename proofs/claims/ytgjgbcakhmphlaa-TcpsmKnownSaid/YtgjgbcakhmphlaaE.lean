/-
  tcpsm.Next answers by N: contracts. Conditions stand in each statement.
-/
import Derived.Test.YtgjgbcakhmphlaaD
import Derived.Deep.QuietTactic
import Derived.BigQuiet
import Derived.RegionTactic
import Derived.Lib.Hide
import Derived.Maps.OwnOps
namespace Go.Proofs.Ytgjgbcakhmphlaa
open Go.RowKit Go.Maps Go.WideMaps

theorem zero37 (w : World) : (zeroValue 37).run Try.prog w = .ok (.agg #[.int .i64 0, .int .i64 0]) w := by kernel_rfl
theorem changes_own (w : World) : Calls Try.prog 17 #[] w fun e w' => e = .returned (.map (some w.heap.size)) ∧ ∃ n, Own3 w w' n DC :=
  (changes_any w).mono fun e w' ⟨b, n, he, hb, hO⟩ => by subst hb; exact ⟨he, n, hO⟩

section
variable (w : World) {ops : Array Oper} {rest : List Oper} {o : Oper} {a : Act} {Q : Exit → Act → World → Prop}
theorem wpList_look_in (hg : o.guard = none) (m x : Operand) (hop : o.op = Op.lookup 39 m x true) (b n : Nat) (hown : Owns w b n DC) (s f k y l : Int)
    (hm : a.eval m = .map (some b)) (hx : a.eval x = .agg #[.int .i64 s, .int .i64 f, .int .i64 k]) (hkey : keyOf Try.prog 41 (.agg #[.int .i64 s, .int .i64 f, .int .i64 k]) = some (kl s f k))
    (hh : Hid (Maps.has DC (kl s f k) = true)) (hon : Hid (DC.atKey (kl s f k) (onD 0 0) = onD y l))
    (hK : wpList Try.prog ops Q rest (a.put o.dst (.tuple #[.agg #[.int .i64 y, .int .i64 l], .bool true])) w) : wpList Try.prog ops Q (o :: rest) a w :=
  wpList_lookup_own_ok w hg m x 39 hop 41 37 keyed41 Try.underlying39 onR (zero37 w) (onD 0 0) [] rfl b n DC hm hown _ _ hx hkey fun v ps hv => by
    obtain ⟨c, d, rfl, he⟩ := onR_inv hv
    simp only [Prod.mk.injEq] at he
    obtain ⟨rfl, rfl⟩ := onD_inj (hon.out.symm.trans he.1)
    rw [hh.out]; exact hK
theorem wpList_look_out (hg : o.guard = none) (m x : Operand) (hop : o.op = Op.lookup 39 m x true) (b n : Nat) (hown : Owns w b n DC) (s f k : Int)
    (hm : a.eval m = .map (some b)) (hx : a.eval x = .agg #[.int .i64 s, .int .i64 f, .int .i64 k]) (hkey : keyOf Try.prog 41 (.agg #[.int .i64 s, .int .i64 f, .int .i64 k]) = some (kl s f k))
    (hh : Hid (Maps.has DC (kl s f k) = false))
    (hK : ∀ y l : Int, wpList Try.prog ops Q rest (a.put o.dst (.tuple #[.agg #[.int .i64 y, .int .i64 l], .bool false])) w) : wpList Try.prog ops Q (o :: rest) a w :=
  wpList_lookup_own_ok w hg m x 39 hop 41 37 keyed41 Try.underlying39 onR (zero37 w) (onD 0 0) [] rfl b n DC hm hown _ _ hx hkey fun v ps hv => by
    obtain ⟨c, d, rfl, _⟩ := onR_inv hv
    rw [hh.out]; exact hK c d
end

set_option maxHeartbeats 400000 in
theorem next_no (s f g : Int) (w : World) (h : s < 0 ∨ 7 < s ∨ (f ≠ 4 ∧ f ≠ 6)) :
    Calls Try.prog 10 #[.int .i64 s, .int .i64 f, .int .i64 g] w fun e w' => e = .returned (.tuple #[.int .i64 0, .int .i64 0, .bool false]) ∧ Below w.heap.size w w' := by
  by_cases h0 : s < 0
  · clear h
    go_enter Try.func10, Try.ntmps10
    go_wp2
    go_ret3
    exact ⟨rfl, Below.refl _ _⟩
  · by_cases h7 : 7 < s
    · clear h
      go_enter Try.func10, Try.ntmps10
      go_wp2
      go_ret3
      exact ⟨rfl, Below.refl _ _⟩
    · have h4 : (f == 4) = false := by simp; omega
      have h6 : (f == 6) = false := by simp; omega
      clear h
      go_enter Try.func10, Try.ntmps10
      go_wp2_with (go_at_call 16; refine (side_f _ _ h4 h6).mono ?_; rintro e w' ⟨rfl, rfl⟩)
      go_ret3
      exact ⟨rfl, Below.refl _ _⟩

set_option maxHeartbeats 400000 in
theorem next_ok (s f g : Int) (w : World) (h0 : 0 ≤ s) (h7 : s ≤ 7) (hf : f = 4 ∨ f = 6) :
    Calls Try.prog 10 #[.int .i64 s, .int .i64 f, .int .i64 g] w fun e w' => e = .returned (.tuple #[.int .i64 (N s f (kd g)).1, .int .i64 (N s f (kd g)).2, .bool true]) ∧ Below w.heap.size w w' := by
  have hlook := look h0 h7 hf (kd_four g)
  have hw0 : (Lit.int .i64 s).wf = true := WalkArith.wf_i64 (by omega)
  have hw1 : (Lit.int .i64 f).wf = true := WalkArith.wf_i64 (by omega)
  have hw2 : (Lit.int .i64 (kd g)).wf = true := WalkArith.wf_i64 (by have := kd_four g; omega)
  have key0 := keyOf41 hw0 hw1 hw2
  clear hw0 hw1 hw2
  have key := Lib.hid key0
  clear key0
  have hf' := Lib.hid hf
  clear hf
  unfold chk at hlook
  by_cases hh : Maps.has DC (kl s f (kd g)) = true
  · rw [if_pos hh] at hlook
    have hon := isOn_eq hlook
    have HH := Lib.hid hh
    have HON := Lib.hid hon
    clear hlook hh hon
    go_enter Try.func10, Try.ntmps10
    go_wp2_with (first | (go_at_call 16; refine (side_t _ _ hf'.out).mono ?_; rintro e w' ⟨rfl, rfl⟩) | (go_at_call 17; refine (changes_own _).mono ?_; rintro e w1 ⟨rfl, n, hO⟩) | (go_at_call 13; refine (kind_any _ _).mono ?_; rintro e w' ⟨rfl, rfl⟩) | (at_lookup; refine wpList_look_in _ rfl _ _ rfl _ _ hO.1 _ _ _ _ _ rfl rfl key.out HH HON ?_))
    go_quiet (fail)
    go_wp2
    go_ret3
    exact ⟨rfl, below_drewN (hO.2.1.alloc (Nat.le_of_lt hO.2.2) _) _⟩
  · rw [if_neg hh] at hlook
    have hn : N s f (kd g) = (s, 0) := by simpa using hlook
    have HH : Hid (Maps.has DC (kl s f (kd g)) = false) := Lib.hid (by simpa using hh)
    have HN := Lib.hid hn
    clear hlook hh hn
    have fin : ∀ w', Below w.heap.size w w' → (Ending.returned (.tuple #[.int .i64 s, .int .i64 0, .bool true]) = .returned (.tuple #[.int .i64 (N s f (kd g)).1, .int .i64 (N s f (kd g)).2, .bool true])) ∧ Below w.heap.size w w' := fun w' h => ⟨by rw [HN.out], h⟩
    go_enter Try.func10, Try.ntmps10
    go_wp2_with (first | (go_at_call 16; refine (side_t _ _ hf'.out).mono ?_; rintro e w' ⟨rfl, rfl⟩) | (go_at_call 17; refine (changes_own _).mono ?_; rintro e w1 ⟨rfl, n, hO⟩) | (go_at_call 13; refine (kind_any _ _).mono ?_; rintro e w' ⟨rfl, rfl⟩) | (at_lookup; refine wpList_look_out _ rfl _ _ rfl _ _ hO.1 _ _ _ rfl rfl key.out HH ?_; intro y l))
    go_ret3
    exact fin _ (hO.2.1.alloc (Nat.le_of_lt hO.2.2) _)
end Go.Proofs.Ytgjgbcakhmphlaa
