/-
  What no replica answers: the contracts of its methods at nil, by the executor; the law walked out of them, for whatever arguments, if the chapter's example is true. No other condition.
-/
import Derived.Test.YtgeanfninogjlaaGreatDoorTab
import Derived.KernelRfl
import Derived.WalkKit
import Derived.Lib.Hide
import Derived.WalkSpells
import Derived.WalkLawsBesides
set_option linter.unusedVariables false
set_option linter.unusedSimpArgs false
set_option linter.unusedSectionVars false
namespace Go.Proofs.YtgeanfninogjlaaGreatDoor
open Go Go.AX Go.RowKit
theorem env_floor : env.floor = 0 := rfl
theorem top4 (L : Lay) (a b c d : Value) : VR L (.agg [.top, .top, .top, .top]) (.agg #[a, b, c, d]) := ⟨_, rfl, _, _, rfl, trivial, _, _, rfl, trivial, _, _, rfl, trivial, _, _, rfl, trivial, rfl⟩
theorem get_nil (t a b c d : Value) (w : World) : Calls Tryz.prog 5 #[.pointer none, t, .agg #[a, b, c, d]] w fun e w' => e = .returned (.tuple #[.agg #[.int .i64 0, .slice none 0 0, .slice none 0 0], .bool false, .int .i64 1]) ∧ Below w.heap.size w w' :=
  calls_of_short env_ok env_floor (n := 49) (ars := [.nilp, .top, .agg [.top, .top, .top, .top]]) (v := .tuple [.agg [.int .i64 (.ofNat 0), .nils, .nils], .bool false, .int .i64 (.ofNat 1)]) (by kernel_rfl) rfl ⟨_, _, rfl, rfl, _, _, rfl, trivial, _, _, rfl, top4 .., rfl⟩ w
theorem scan_nil (w : World) : Calls Tryz.prog 6 #[.pointer none] w fun e w' => e = .returned (.tuple #[.slice none 0 0, .int .i64 1]) ∧ Below w.heap.size w w' :=
  calls_of_short env_ok env_floor (n := 18) (ars := [.nilp]) (v := .tuple [.nils, .int .i64 (.ofNat 1)]) (by kernel_rfl) rfl ⟨_, _, rfl, rfl, rfl⟩ w
theorem history_nil (t a b c d : Value) (w : World) : Calls Tryz.prog 7 #[.pointer none, t, .agg #[a, b, c, d]] w fun e w' => e = .returned (.tuple #[.slice none 0 0, .int .i64 1]) ∧ Below w.heap.size w w' :=
  calls_of_short env_ok env_floor (n := 46) (ars := [.nilp, .top, .agg [.top, .top, .top, .top]]) (v := .tuple [.nils, .int .i64 (.ofNat 1)]) (by kernel_rfl) rfl ⟨_, _, rfl, rfl, _, _, rfl, trivial, _, _, rfl, top4 .., rfl⟩ w
theorem state_nil (w : World) : Calls Tryz.prog 8 #[.pointer none] w fun e w' => e = .returned (.tuple #[.pointer none, .int .i64 1]) ∧ Below w.heap.size w w' :=
  calls_of_short env_ok env_floor (n := 18) (ars := [.nilp]) (v := .tuple [.nilp, .int .i64 (.ofNat 1)]) (by kernel_rfl) rfl ⟨_, _, rfl, rfl, rfl⟩ w
theorem water_nil (w : World) : Calls Tryz.prog 9 #[.pointer none] w fun e w' => e = .returned (.tuple #[.int .u64 0, .bool false]) ∧ Below w.heap.size w w' :=
  calls_of_short env_ok env_floor (n := 18) (ars := [.nilp]) (v := .tuple [.int .u64 (.ofNat 0), .bool false]) (by kernel_rfl) rfl ⟨_, _, rfl, rfl, rfl⟩ w
theorem first_nil (w : World) : Calls Tryz.prog 10 #[.pointer none] w fun e w' => e = .returned (.tuple #[.int .u64 0, .bool false]) ∧ Below w.heap.size w w' :=
  calls_of_short env_ok env_floor (n := 18) (ars := [.nilp]) (v := .tuple [.int .u64 (.ofNat 0), .bool false]) (by kernel_rfl) rfl ⟨_, _, rfl, rfl, rfl⟩ w
theorem publish_nil (a b c d : Value) (w : World) : Calls Tryz.prog 11 #[.pointer none, .agg #[a, b, c, d], .int .u64 1, .slice none 0 0] w fun e w' => e = .returned (.int .i64 1) ∧ Below w.heap.size w w' :=
  calls_of_short env_ok env_floor (n := 18) (ars := [.nilp, .agg [.top, .top, .top, .top], .int .u64 (.ofNat 1), .nils]) (v := .int .i64 (.ofNat 1)) (by kernel_rfl) rfl ⟨_, _, rfl, rfl, _, _, rfl, top4 .., _, _, rfl, rfl, _, _, rfl, rfl, rfl⟩ w
theorem place_nil (w : World) : Calls Tryz.prog 12 #[.pointer none] w fun e w' => e = .returned (.agg #[.int .u64 0, .slice none 0 0]) ∧ Below w.heap.size w w' :=
  calls_of_short env_ok env_floor (n := 17) (ars := [.nilp]) (v := .agg [.int .u64 (.ofNat 0), .nils]) (by kernel_rfl) rfl ⟨_, _, rfl, rfl, rfl⟩ w
end Go.Proofs.YtgeanfninogjlaaGreatDoor

namespace Go.Proofs.YtgeanfninogjlaaGreatDoor
open Go.RowKit
/-- two blocks of four cells lie still -/
def Kp (n : Nat) (a b c d x y z s : Value) (w : World) : Prop :=
  w.cell? ⟨n, 0, none⟩ = some a ∧ w.cell? ⟨n, 1, none⟩ = some b ∧ w.cell? ⟨n, 2, none⟩ = some c ∧ w.cell? ⟨n, 3, none⟩ = some d ∧
  w.cell? ⟨n + 1, 0, none⟩ = some x ∧ w.cell? ⟨n + 1, 1, none⟩ = some y ∧ w.cell? ⟨n + 1, 2, none⟩ = some z ∧ w.cell? ⟨n + 1, 3, none⟩ = some s ∧ n + 1 < w.heap.size
theorem Kp.below {n : Nat} {a b c d x y z s : Value} {w w' : World} (k : Kp n a b c d x y z s w) (hb : Below w.heap.size w w') : Kp n a b c d x y z s w' := by
  obtain ⟨h0, h1, h2, h3, h4, h5, h6, h7, h8⟩ := k
  have hn : n < w.heap.size := by omega
  refine ⟨?_, ?_, ?_, ?_, ?_, ?_, ?_, ?_, Nat.lt_of_lt_of_le h8 hb.size⟩
  · rw [hb.cell (p := ⟨n, 0, none⟩) hn]; exact h0
  · rw [hb.cell (p := ⟨n, 1, none⟩) hn]; exact h1
  · rw [hb.cell (p := ⟨n, 2, none⟩) hn]; exact h2
  · rw [hb.cell (p := ⟨n, 3, none⟩) hn]; exact h3
  · rw [hb.cell (p := ⟨n + 1, 0, none⟩) h8]; exact h4
  · rw [hb.cell (p := ⟨n + 1, 1, none⟩) h8]; exact h5
  · rw [hb.cell (p := ⟨n + 1, 2, none⟩) h8]; exact h6
  · rw [hb.cell (p := ⟨n + 1, 3, none⟩) h8]; exact h7
theorem size_alloc (w : World) (o : Obj) : (w.alloc o).heap.size = w.heap.size + 1 := by
  show (w.heap.push o).size = _
  rw [Array.size_push]
theorem Kp.start (a b c d x y z s : Value) (t u : TypeId) (w : World) : Kp w.heap.size a b c d x y z s ((w.alloc (.cells #[a, b, c, d] t)).alloc (.cells #[x, y, z, s] u)) := by
  have hA : ((w.alloc (.cells #[a, b, c, d] t)).alloc (.cells #[x, y, z, s] u)).heap[w.heap.size]? = some (.cells #[a, b, c, d] t) := by
    rw [AX.heap_push_lt _ _ (by rw [size_alloc]; omega)]; exact AX.heap_push_at w _
  have hB : ((w.alloc (.cells #[a, b, c, d] t)).alloc (.cells #[x, y, z, s] u)).heap[w.heap.size + 1]? = some (.cells #[x, y, z, s] u) := by
    rw [← size_alloc w (.cells #[a, b, c, d] t)]; exact AX.heap_push_at _ _
  refine ⟨?_, ?_, ?_, ?_, ?_, ?_, ?_, ?_, by rw [size_alloc, size_alloc]; omega⟩
  · rw [AX.cell_at hA]; rfl
  · rw [AX.cell_at hA]; rfl
  · rw [AX.cell_at hA]; rfl
  · rw [AX.cell_at hA]; rfl
  · rw [AX.cell_at hB]; rfl
  · rw [AX.cell_at hB]; rfl
  · rw [AX.cell_at hB]; rfl
  · rw [AX.cell_at hB]; rfl
theorem two_below (w : World) (A B : Obj) : Below w.heap.size w ((w.alloc A).alloc B) := ((Below.refl _ _).alloc (Nat.le_refl _) _).alloc (by rw [size_alloc]; omega) _
theorem one_below {w w' : World} {o : Obj} (hb : Below (w.alloc o).heap.size (w.alloc o) w') : Below w.heap.size w w' := ((Below.refl _ _).alloc (Nat.le_refl _) _).trans (hb.mono (by rw [size_alloc]; omega))
theorem two_le (w : World) (A B : Obj) : w.heap.size ≤ ((w.alloc A).alloc B).heap.size := by rw [size_alloc, size_alloc]; omega

set_option maxHeartbeats 400000 in
set_option maxRecDepth 100000 in
theorem rn (hal : ∀ w, Calls Tryz.prog 4 #[] w fun e w' => e = .returned (.bool true) ∧ Below w.heap.size w w') (a b t x y z : Value) (p q : Option Addr) (l1 c1 l2 c2 : Nat) (s : ByteArray) (w : World) :
    Calls Tryz.prog 3 #[.agg #[a, b, .slice p l1 c1, .slice q l2 c2], t, .agg #[x, y, z, .string s]] w fun e w' => e = .returned (.bool true) ∧ Below w.heap.size w w' := by
  have hfld : ∀ w, (Instr.field 50 (.agg #[.int .u64 0, .slice none 0 0]) 1).run Tryz.prog w = .ok (.slice none 0 0) w := by intro w; kernel_rfl
  have HAL := Lib.hid hal
  clear hal
  go_enter Tryz.func3, Tryz.ntmps3
  go_wp2_with fail
  all_goals (first
    | (refine (HAL.out _).mono ?_; rintro e w1 ⟨rfl, hb1⟩; go_wp2; go_ret; exact ⟨rfl, (two_below w _ _).trans (hb1.mono (two_le w _ _))⟩)
    | skip)
  all_goals (refine (get_nil _ _ _ _ _ _).mono ?_; rintro e w1 ⟨rfl, hb1⟩)
  all_goals (have k1 := (Kp.start a b (.slice p l1 c1) (.slice q l2 c2) x y z (.string s) _ _ w).below hb1)
  all_goals (have q1 := (two_below w _ _).trans (hb1.mono (two_le w _ _)))
  all_goals clear hb1
  all_goals (have K1 := Lib.hid k1; obtain ⟨h0, h1, h2, h3, h4, h5, h6, h7, h8⟩ := k1)
  all_goals go_wp2_with fail
  all_goals (refine (scan_nil _).mono ?_; rintro e w2 ⟨rfl, hb2⟩)
  all_goals (have b2 := one_below hb2; have k2 := K1.out.below b2; have q2 := q1.trans (b2.mono q1.size); clear hb2 b2 q1 K1 h0 h1 h2 h3 h4 h5 h6 h7 h8)
  all_goals (have K2 := Lib.hid k2; obtain ⟨h0, h1, h2, h3, h4, h5, h6, h7, h8⟩ := k2)
  all_goals go_wp2_with fail
  all_goals (refine (history_nil _ _ _ _ _ _).mono ?_; rintro e w3 ⟨rfl, b3⟩)
  all_goals (have k3 := K2.out.below b3; have q3 := q2.trans (b3.mono q2.size); clear b3 q2 K2 h0 h1 h2 h3 h4 h5 h6 h7 h8)
  all_goals (have K3 := Lib.hid k3; obtain ⟨h0, h1, h2, h3, h4, h5, h6, h7, h8⟩ := k3)
  all_goals go_wp2_with fail
  all_goals (refine (state_nil _).mono ?_; rintro e w4 ⟨rfl, b4⟩)
  all_goals (have k4 := K3.out.below b4; have q4 := q3.trans (b4.mono q3.size); clear b4 q3 K3 h0 h1 h2 h3 h4 h5 h6 h7 h8)
  all_goals (have K4 := Lib.hid k4; obtain ⟨h0, h1, h2, h3, h4, h5, h6, h7, h8⟩ := k4)
  all_goals go_wp2_with fail
  all_goals (refine (water_nil _).mono ?_; rintro e w5 ⟨rfl, b5⟩)
  all_goals (have k5 := K4.out.below b5; have q5 := q4.trans (b5.mono q4.size); clear b5 q4 K4 h0 h1 h2 h3 h4 h5 h6 h7 h8)
  all_goals (have K5 := Lib.hid k5; obtain ⟨h0, h1, h2, h3, h4, h5, h6, h7, h8⟩ := k5)
  all_goals go_wp2_with fail
  all_goals (refine (first_nil _).mono ?_; rintro e w6 ⟨rfl, b6⟩)
  all_goals (have k6 := K5.out.below b6; have q6 := q5.trans (b6.mono q5.size); clear b6 q5 K5 h0 h1 h2 h3 h4 h5 h6 h7 h8)
  all_goals (have K6 := Lib.hid k6; obtain ⟨h0, h1, h2, h3, h4, h5, h6, h7, h8⟩ := k6)
  all_goals go_wp2_with fail
  all_goals (refine (publish_nil _ _ _ _ _).mono ?_; rintro e w7 ⟨rfl, b7⟩)
  all_goals (have q7 := q6.trans (b7.mono q6.size); clear b7 q6 K6 h0 h1 h2 h3 h4 h5 h6 h7 h8)
  all_goals go_wp2_with fail
  all_goals (refine (place_nil _).mono ?_; rintro e w8 ⟨rfl, b8⟩)
  all_goals (have q8 := q7.trans (b8.mono q7.size); clear b8 q7)
  all_goals go_wp2_with fail
  all_goals (refine (HAL.out _).mono ?_; rintro e w9 ⟨rfl, b9⟩)
  all_goals (have q9 := q8.trans (b9.mono q8.size); clear b9 q8)
  all_goals go_wp2
  all_goals go_ret
  all_goals exact ⟨rfl, q9⟩
end Go.Proofs.YtgeanfninogjlaaGreatDoor

