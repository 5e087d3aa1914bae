/-
  ReplicaNil returns true for every input, and each argument reads afterwards as it read before: the tied card. Its conditions: the listed tables are tied to the program's text; nothing else.
-/
import Derived.Test.YtgeanfninogjlaaGreatDoorFacts
import Derived.Test.YtgeanfninogjlaaGreatDoorTab
import Derived.Test.YtgeanfninogjlaaGreatDoorSeg1
import Derived.Test.YtgeanfninogjlaaGreatDoorSeg2
import Derived.Test.YtgeanfninogjlaaGreatDoorSeg3
import Derived.Test.YtgeanfninogjlaaGreatDoorSeg4
import Derived.Test.YtgeanfninogjlaaGreatDoorSeg5
import Derived.Test.YtgeanfninogjlaaGreatDoorSeg6
import Derived.Test.YtgeanfninogjlaaGreatDoorSeg7
import Derived.Test.YtgeanfninogjlaaGreatDoorSeg8
import Derived.Test.YtgeanfninogjlaaGreatDoorSeg9
import Derived.Test.YtgeanfninogjlaaGreatDoorSeg10
import Derived.Test.YtgeanfninogjlaaGreatDoorSeg11
import Derived.Test.YtgeanfninogjlaaGreatDoorSeg12
import Derived.Test.YtgeanfninogjlaaGreatDoorSeg13
import Derived.Test.YtgeanfninogjlaaGreatDoorSeg14
import Derived.Test.YtgeanfninogjlaaGreatDoorSeg15
import Derived.Test.YtgeanfninogjlaaGreatDoorSeg16
import Derived.Test.YtgeanfninogjlaaGreatDoorSeg17
set_option linter.unusedVariables false
set_option linter.unusedSimpArgs false
set_option linter.unusedSectionVars false
namespace Go.Proofs.YtgeanfninogjlaaGreatDoor
open Go.ChangeShapes Go.WideShapes Go.ChangeAt Go.RowKit Go.Deep Go.Joins
set_option maxRecDepth 100000
theorem said_of (hal : ∀ w, Calls Tryz.prog 4 #[] w fun e w' => e = .returned (.bool true) ∧ Below w.heap.size w w') : Rows.ReplicaNilSaid :=
  OpenClaim.holds_of_cond 3 Tryz.f3 rfl rfl rfl rfl rfl rfl rfl ⟨rfl, rfl, rfl, rfl, rfl⟩ rfl rfl rfl rfl rfl fnNamed Tryz.func3 jfAll inst wrap
    (fun os started H enc _ F => by rw [OpenClaim.pre_eq_preRow]; exact lifted hal os started H enc F)
theorem looks : true = Tryz.prog.looks [] := by kernel_rfl
theorem noStand : ([26, 3, 28].all fun u => !Tryz.prog.wantsStandIn u) = true := by kernel_rfl
theorem plain (f : FuncId) (fn : Func) (hf : Tryz.pinned.checked.prog.funcNamed "fascicle/fasciclelaw28.ReplicaNil" = some f) (hfn : Tryz.pinned.checked.prog.funcs[f]? = some fn) :
    true = Tryz.pinned.checked.prog.looks [] ∧ ∀ (j : Nat) t, fn.params[j]? = some t → Tryz.pinned.checked.prog.wantsStandIn t = false := by
  obtain rfl : f = 3 := Option.some.inj (fnNamed.symm.trans hf) |>.symm
  obtain rfl : fn = Tryz.f3 := (Option.some.inj (Tryz.func3.symm.trans hfn)).symm
  refine ⟨looks, fun j t ht => ?_⟩
  rw [Tryz.params3] at ht
  have hm : t ∈ [26, 3, 28] := by simpa using Array.mem_of_getElem? ht
  exact (show Tryz.prog.wantsStandIn t = false by simpa using List.all_eq_true.1 noStand t hm)
theorem byText : Rows.replicaNilRow.wfByText (OpenSpec.ofChange Rows.replicaNilSpec) = true := by kernel_rfl
theorem mainOf : Tryz.prog.mainIs = some (Rows.replicaNilCard.stood.harness.1, Rows.replicaNilCard.stood.harness.2.toList) := by kernel_rfl
theorem goes_false {P : Program} (h : P.funcs.toList.any Func.goes = false) (f : FuncId) : P.goes f = false := by
  have hg : ∀ g : FuncId, (P.funcs[g]?).any Func.goes = false := by
    intro g
    cases hq : P.funcs[g]? with
    | none => rfl
    | some F =>
      have hm : F ∈ P.funcs.toList := Array.mem_toList_iff.2 (Array.mem_of_getElem? hq)
      have := List.any_eq_false.1 h F hm
      simpa using this
  have hall : P.funcs.any Func.goes = false := by rw [← Array.any_toList]; exact h
  unfold Program.goes
  rw [hall, Bool.and_false, Bool.or_false]
  simp only [hg]
  simp
theorem halves {α : Type} {p : α → Bool} (n : Nat) {l : List α} (h : (l.take n).any p = false) (k : (l.drop n).any p = false) : l.any p = false := by
  rw [← List.take_append_drop n l, List.any_append, h, k]; rfl
theorem goA : (Tryz.prog.funcs.toList.take 150).any Func.goes = false := by kernel_rfl
theorem goB : ((Tryz.prog.funcs.toList.drop 150).take 150).any Func.goes = false := by kernel_rfl
theorem goC : ((Tryz.prog.funcs.toList.drop 150).drop 150).any Func.goes = false := by kernel_rfl
theorem goes : false = Rows.replicaNilRow.goesBy Tryz.prog := by
  have h := goes_false (halves 150 goA (halves 150 goB goC)) 3
  have hn : Tryz.prog.funcNamed Rows.replicaNilRow.func = some 3 := fnNamed
  unfold OpenClaim.goesBy Program.goesAt Program.goesFrom
  rw [hn]
  simp only [Option.any_some, h]
  rfl

/-- THE CARD, out of the chapter's example. -/
theorem card_of (hal : ∀ w, Calls Tryz.prog 4 #[] w fun e w' => e = .returned (.bool true) ∧ Below w.heap.size w w') : Rows.ReplicaNilCardSaid :=
  Claim7.holds_tied_plain_at .later [] _ _ _ _ (said_of hal) (fun _ h => by cases h) byText (fun _ h => by cases h) replicaNil_row_tie rfl ⟨rfl, rfl⟩ mainOf rfl plain goes
end Go.Proofs.YtgeanfninogjlaaGreatDoor

namespace Go.Proofs.YtgeanfninogjlaaGreatDoor
open Go Go.AX Go.RowKit
set_option maxRecDepth 100000
theorem alive_enters : (aenter env 4 [] false).isSome = true := by kernel_rfl
theorem alive_ends : (match astep env 0 st17 with | .done v _ _ => some v | _ => none) = some (.bool true) := by kernel_rfl
/-- THE CHAPTER's EXAMPLE IS TRUE, from whatever memory. -/
theorem alive_true (w : World) : Calls Tryz.prog 4 #[] w fun e w' => e = .returned (.bool true) ∧ Below w.heap.size w w' := by
  obtain ⟨fr, hfr⟩ := Option.isSome_iff_exists.1 alive_enters
  have h0 : st0 = ⟨[fr], .leaf, 0⟩ := by unfold st0; rw [hfr]
  have hp : Pieces env ⟨[fr], .leaf, 0⟩ st17 := by
    rw [← h0]
    exact (.step _ _ (.step _ _ (.step _ _ (.step _ _ (.step _ _ (.step _ _ (.step _ _ (.step _ _ (.step _ _ (.step _ _ (.step _ _ (.step _ _ (.step _ _ (.step _ _ (.step _ _ (.step _ _ (.step _ _ (.refl _) seg1) seg2) seg3) seg4) seg5) seg6) seg7) seg8) seg9) seg10) seg11) seg12) seg13) seg14) seg15) seg16) seg17)
  have he := alive_ends
  split at he
  · rename_i v h nx hd
    injection he with he
    subst he
    exact calls_of_run env_ok env_floor hfr hp hd rfl (vs := #[]) rfl w
  · cases he
/-- ████ THE CARD ████ -/
theorem replicaNil_card : Rows.ReplicaNilCardSaid := card_of alive_true
#print axioms replicaNil_card
end Go.Proofs.YtgeanfninogjlaaGreatDoor
