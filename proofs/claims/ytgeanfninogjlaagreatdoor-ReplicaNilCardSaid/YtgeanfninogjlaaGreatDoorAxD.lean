/-
  The executor: regions in whatever order, frames, steps, runs are right; a closed call answers so from whatever memory.
  Of whatever program; no condition.
-/
import Derived.Test.YtgeanfninogjlaaGreatDoorAxC
import Derived.Orders
set_option linter.unusedVariables false
set_option linter.unusedSimpArgs false
set_option linter.unusedSectionVars false
namespace Go.AX
open Go Go.RowKit

/-! ### What stands ahead of what -/
def preL (ops : Array Oper) : List Nat := befores ops.toList 0 []
def preOf (ops : Array Oper) (i : Nat) : Nat := (preL ops).getD i 0
def allOf (ops : Array Oper) : List PO := withPre ops.toList (preL ops) 0
def Must (ops : Array Oper) (i j : Nat) : Prop := (preOf ops i).testBit j = true

theorem testBit_pow (a j : Nat) : (2 ^ a).testBit j = true ↔ a = j := by
  rw [Nat.testBit_two_pow]; simp

theorem before1_bits (acc : List Nat) (n : Nat) : ∀ (es : List Edge) (s j : Nat), (before1 acc n s es).testBit j = true ↔
    s.testBit j = true ∨ ∃ e ∈ es, Region.binds .any e = true ∧ e.on < n ∧ (e.on = j ∨ (acc.getD (n - 1 - e.on) 0).testBit j = true)
  | [], s, j => by simp [before1]
  | e :: es, s, j => by
    unfold before1
    cases hc : (Region.binds .any e && Nat.blt e.on n) with
    | true =>
      simp only
      rw [before1_bits acc n es]
      simp only [Bool.and_eq_true, blt_iff] at hc
      have h1 : (Nat.lor s (Nat.lor (2 ^ e.on) (acc.getD (n - 1 - e.on) 0))).testBit j = (s.testBit j || ((2 ^ e.on).testBit j || (acc.getD (n - 1 - e.on) 0).testBit j)) := by
        show (s ||| ((2 ^ e.on) ||| (acc.getD (n - 1 - e.on) 0))).testBit j = _
        rw [Nat.testBit_or, Nat.testBit_or]
      rw [h1]
      simp only [Bool.or_eq_true, testBit_pow, List.mem_cons]
      constructor
      · rintro ((h | h) | ⟨x, hx, h⟩)
        · exact .inl h
        · exact .inr ⟨e, .inl rfl, hc.1, hc.2, h⟩
        · exact .inr ⟨x, .inr hx, h⟩
      · rintro (h | ⟨x, hx | hx, h⟩)
        · exact .inl (.inl h)
        · subst hx; exact .inl (.inr h.2.2)
        · exact .inr ⟨x, hx, h⟩
    | false =>
      simp only
      rw [before1_bits acc n es]
      have hc' : ¬ (Region.binds .any e = true ∧ e.on < n) := by
        intro q
        have : (Region.binds .any e && Nat.blt e.on n) = true := by simp only [Bool.and_eq_true, blt_iff]; exact q
        rw [hc] at this; cases this
      simp only [List.mem_cons]
      constructor
      · rintro (h | ⟨x, hx, h⟩)
        · exact .inl h
        · exact .inr ⟨x, .inr hx, h⟩
      · rintro (h | ⟨x, hx | hx, h⟩)
        · exact .inl h
        · subst hx; exact absurd ⟨h.1, h.2.1⟩ hc'
        · exact .inr ⟨x, hx, h⟩

theorem befores_length : ∀ (l : List Oper) (n : Nat) (acc : List Nat), (befores l n acc).length = acc.length + l.length
  | [], _, acc => by simp [befores]
  | o :: l, n, acc => by
    unfold befores
    rw [force_eq, befores_length l]
    simp; omega
theorem befores_prefix : ∀ (l : List Oper) (n : Nat) (acc : List Nat), ∃ more, befores l n acc = acc.reverse ++ more
  | [], _, acc => ⟨[], by simp [befores]⟩
  | o :: l, n, acc => by
    unfold befores
    rw [force_eq]
    obtain ⟨more, h⟩ := befores_prefix l (n + 1) (before1 acc n 0 o.after.toList :: acc)
    exact ⟨before1 acc n 0 o.after.toList :: more, by rw [h]; simp⟩
theorem befores_at : ∀ (l : List Oper) (n : Nat) (acc : List Nat), acc.length = n → ∀ (k : Nat) (o : Oper), l[k]? = some o →
    ∃ acc', acc'.length = n + k ∧ (∃ more, befores l n acc = acc'.reverse ++ (before1 acc' (n + k) 0 o.after.toList :: more))
  | [], _, _, _, _, _, h => by simp at h
  | o :: l, n, acc, hl, 0, o', h => by
    simp only [List.getElem?_cons_zero, Option.some.injEq] at h; subst h
    unfold befores
    rw [force_eq]
    obtain ⟨more, hm⟩ := befores_prefix l (n + 1) (before1 acc n 0 o.after.toList :: acc)
    exact ⟨acc, by simpa using hl, more, by rw [hm]; simp⟩
  | o :: l, n, acc, hl, k + 1, o', h => by
    simp only [List.getElem?_cons_succ] at h
    unfold befores
    rw [force_eq]
    obtain ⟨acc', h1, more, h2⟩ := befores_at l (n + 1) (before1 acc n 0 o.after.toList :: acc) (by simp [hl]) k o' h
    exact ⟨acc', by omega, more, by rw [h2]; simp [Nat.add_assoc, Nat.add_comm, Nat.add_left_comm]⟩

theorem must_iff {ops : Array Oper} {i : Nat} {o : Oper} (ho : ops[i]? = some o) (j : Nat) : Must ops i j ↔
    ∃ e ∈ o.after.toList, Region.binds .any e = true ∧ e.on < i ∧ (e.on = j ∨ Must ops e.on j) := by
  have ho' : ops.toList[i]? = some o := by simpa using ho
  obtain ⟨acc', h1, more, h2⟩ := befores_at ops.toList 0 [] rfl i o ho'
  simp only [Nat.zero_add] at h1 h2
  have hL : preL ops = acc'.reverse ++ (before1 acc' i 0 o.after.toList :: more) := h2
  have hi : preOf ops i = before1 acc' i 0 o.after.toList := by
    unfold preOf
    rw [hL, List.getD_eq_getElem?_getD, List.getElem?_append_right (by simp [h1])]
    simp [h1]
  have hj : ∀ k, k < i → acc'.getD (i - 1 - k) 0 = preOf ops k := by
    intro k hk
    unfold preOf
    rw [hL, List.getD_eq_getElem?_getD, List.getD_eq_getElem?_getD, List.getElem?_append_left (by simp [h1]; exact hk), List.getElem?_reverse (by omega), h1]
  unfold Must
  rw [hi, before1_bits]
  simp only [Nat.zero_testBit, Bool.false_eq_true, false_or]
  constructor
  · rintro ⟨e, he, hb, hlt, h⟩
    exact ⟨e, he, hb, hlt, by rw [hj _ hlt] at h; exact h⟩
  · rintro ⟨e, he, hb, hlt, h⟩
    exact ⟨e, he, hb, hlt, by rw [hj _ hlt]; exact h⟩
theorem preL_length (ops : Array Oper) : (preL ops).length = ops.size := by
  unfold preL; rw [befores_length]; simp
theorem must_lt {ops : Array Oper} : ∀ (i j : Nat), Must ops i j → i < ops.size ∧ j < i := by
  intro i
  induction i using Nat.strongRecOn with
  | _ i ih =>
    intro j h
    cases ho : ops[i]? with
    | none =>
      exfalso
      have : ops.size ≤ i := by simpa using ho
      unfold Must preOf at h
      rw [List.getD_eq_getElem?_getD, List.getElem?_eq_none (by rw [preL_length]; exact this)] at h
      simp at h
    | some o =>
      have hlt : i < ops.size := (Array.getElem?_eq_some_iff.1 ho).1
      obtain ⟨e, _, _, h3, h4⟩ := (must_iff ho j).1 h
      refine ⟨hlt, ?_⟩
      rcases h4 with h4 | h4
      · omega
      · have := (ih e.on h3 j h4).2; omega

/-- a region's operations, each with what stands ahead of it -/
def poAt (ops : Array Oper) (i : Nat) (o : Oper) : PO := ⟨o, i, preOf ops i, loud o.op⟩
theorem withPre_mem : ∀ (l : List Oper) (ps : List Nat) (n : Nat) (a : PO), a ∈ withPre l ps n → ∃ k o p, l[k]? = some o ∧ ps[k]? = some p ∧ a = ⟨o, n + k, p, loud o.op⟩
  | [], _, _, a, h => by simp [withPre] at h
  | _ :: _, [], _, a, h => by simp [withPre] at h
  | o :: l, p :: ps, n, a, h => by
    simp only [withPre, List.mem_cons] at h
    rcases h with h | h
    · exact ⟨0, o, p, rfl, rfl, by simp [h]⟩
    · obtain ⟨k, o', p', h1, h2, h3⟩ := withPre_mem l ps (n + 1) a h
      exact ⟨k + 1, o', p', by simpa using h1, by simpa using h2, by rw [h3]; congr 1; omega⟩
theorem mem_withPre : ∀ (l : List Oper) (ps : List Nat) (n k : Nat) (o : Oper) (p : Nat), l[k]? = some o → ps[k]? = some p → (⟨o, n + k, p, loud o.op⟩ : PO) ∈ withPre l ps n
  | [], _, _, _, _, _, h, _ => by simp at h
  | _ :: _, [], _, _, _, _, _, h => by simp at h
  | o :: l, p :: ps, n, 0, o', p', h1, h2 => by
    simp only [List.getElem?_cons_zero, Option.some.injEq] at h1 h2; subst h1; subst h2
    simp [withPre]
  | o :: l, p :: ps, n, k + 1, o', p', h1, h2 => by
    simp only [List.getElem?_cons_succ] at h1 h2
    have := mem_withPre l ps (n + 1) k o' p' h1 h2
    simp only [withPre, List.mem_cons]
    right
    rw [show n + (k + 1) = n + 1 + k by omega]; exact this
theorem preL_get {ops : Array Oper} {i : Nat} (h : i < ops.size) : (preL ops)[i]? = some (preOf ops i) := by
  unfold preOf
  rw [List.getD_eq_getElem?_getD, List.getElem?_eq_getElem (by rw [preL_length]; exact h)]; rfl
theorem mem_all {ops : Array Oper} {a : PO} : a ∈ allOf ops ↔ ∃ i o, ops[i]? = some o ∧ a = poAt ops i o := by
  constructor
  · intro h
    obtain ⟨k, o, p, h1, h2, h3⟩ := withPre_mem _ _ _ _ h
    have h1' : ops[k]? = some o := by simpa using h1
    have hk : k < ops.size := (Array.getElem?_eq_some_iff.1 h1').1
    rw [preL_get hk] at h2
    injection h2 with h2
    exact ⟨k, o, h1', by rw [h3, ← h2]; simp [poAt]⟩
  · rintro ⟨i, o, h, rfl⟩
    have hk : i < ops.size := (Array.getElem?_eq_some_iff.1 h).1
    have := mem_withPre ops.toList (preL ops) 0 i o (preOf ops i) (by simpa using h) (preL_get hk)
    simpa [poAt, allOf] using this
theorem withPre_pairs : ∀ (l : List Oper) (ps : List Nat) (n : Nat), (withPre l ps n).Pairwise (fun a b => a.i < b.i) ∧ ∀ a ∈ withPre l ps n, n ≤ a.i
  | [], _, _ => by simp [withPre]
  | _ :: _, [], _ => by simp [withPre]
  | o :: l, p :: ps, n => by
    obtain ⟨h1, h2⟩ := withPre_pairs l ps (n + 1)
    refine ⟨List.pairwise_cons.2 ⟨fun b hb => by have := h2 b hb; show n < b.i; omega, h1⟩, fun a ha => ?_⟩
    simp only [withPre, List.mem_cons] at ha
    rcases ha with rfl | ha
    · exact Nat.le_refl _
    · have := h2 a ha; omega
theorem all_rising (ops : Array Oper) : (allOf ops).Pairwise (fun a b => a.i < b.i) := (withPre_pairs _ _ _).1

theorem pairsOk_spec : ∀ (l : List PO), pairsOk l = true → l.Pairwise (fun a b => pairOk a b = true)
  | [], _ => .nil
  | a :: l, h => by
    simp only [pairsOk, Bool.and_eq_true, List.all_eq_true] at h
    exact List.pairwise_cons.2 ⟨h.1, pairsOk_spec l h.2⟩

/-- what the plan has looked at -/
structure RegOk (ops : Array Oper) : Prop where
  edge : ∀ (i : Nat) (o : Oper), ops[i]? = some o → ∀ e ∈ o.after.toList, Region.binds .any e = true → e.on < i
  own : ∀ (i : Nat) (o : Oper) (d : Tmp), ops[i]? = some o → o.dst = some d → d ∈ tmpsOf o → loud o.op = true
  guard : ∀ (i : Nat) (o : Oper) (g : Nat) (w : Bool), ops[i]? = some o → o.guard = some (g, w) → Must ops i g ∧ ∃ (o' : Oper) (d : Tmp), ops[g]? = some o' ∧ o'.dst = some d
  row : ∀ (i j : Nat) (a b : Oper), i < j → ops[i]? = some a → ops[j]? = some b → loud a.op = true → loud b.op = true → Must ops j i
  dst : ∀ (i j : Nat) (a b : Oper) (d : Tmp), i < j → ops[i]? = some a → ops[j]? = some b → a.dst = some d → b.dst ≠ some d
  reads : ∀ (i j : Nat) (a b : Oper) (d : Tmp), i < j → ops[i]? = some a → ops[j]? = some b → a.dst = some d → d ∈ tmpsOf b → Must ops j i
  over : ∀ (i j : Nat) (a b : Oper) (d : Tmp), i < j → ops[i]? = some a → ops[j]? = some b → b.dst = some d → d ∈ tmpsOf a → loud b.op = true

theorem pair_of {ops : Array Oper} (h : pairsOk (allOf ops) = true) {i j : Nat} {a b : Oper} (hij : i < j) (ha : ops[i]? = some a) (hb : ops[j]? = some b) : pairOk (poAt ops i a) (poAt ops j b) = true := by
  have h1 := pairsOk_spec _ h
  have ma := mem_all.2 ⟨i, a, ha, rfl⟩
  have mb := mem_all.2 ⟨j, b, hb, rfl⟩
  obtain ⟨n, hn⟩ := List.mem_iff_getElem?.1 ma
  obtain ⟨m, hm⟩ := List.mem_iff_getElem?.1 mb
  have hr := all_rising ops
  obtain ⟨hn1, hn2⟩ := List.getElem?_eq_some_iff.1 hn
  obtain ⟨hm1, hm2⟩ := List.getElem?_eq_some_iff.1 hm
  have hnm : n < m := by
    rcases Nat.lt_trichotomy n m with q | q | q
    · exact q
    · subst q; rw [hn] at hm; injection hm with hm
      have : (poAt ops i a).i = (poAt ops j b).i := by rw [hm]
      simp [poAt] at this; omega
    · have := List.pairwise_iff_getElem.1 hr m n hm1 hn1 q
      rw [hn2, hm2] at this
      simp [poAt] at this; omega
  have := List.pairwise_iff_getElem.1 h1 n m hn1 hm1 hnm
  rw [hn2, hm2] at this
  exact this

theorem plan_ok {ops : Array Oper} {ph : List Phase} (h : plan ops = some ph) : RegOk ops ∧ ph = phases (allOf ops) [] ((allOf ops).filter (·.lo)) := by
  unfold plan planOf at h
  split at h
  · rename_i hc
    injection h with h
    rw [Bool.and_eq_true, List.all_eq_true] at hc
    obtain ⟨h1, h2⟩ := hc
    have h1' : ∀ a ∈ allOf ops, oneOk ops.size ops a = true := h1
    have h2' : pairsOk (allOf ops) = true := h2
    refine ⟨?_, h.symm⟩
    have one : ∀ i o, ops[i]? = some o → oneOk ops.size ops (poAt ops i o) = true := fun i o ho => h1' _ (mem_all.2 ⟨i, o, ho, rfl⟩)
    have pr := fun (i j : Nat) (a b : Oper) (hij : i < j) (ha : ops[i]? = some a) (hb : ops[j]? = some b) => pair_of h2' hij ha hb
    refine ⟨fun i o ho e he hb => ?_, fun i o d ho hd hm => ?_, fun i o g w ho hg => ?_, fun i j a b hij ha hb la lb => ?_, fun i j a b d hij ha hb hd => ?_, fun i j a b d hij ha hb hd hm => ?_, fun i j a b d hij ha hb hd hm => ?_⟩
    · have := one i o ho
      simp only [oneOk, poAt, Bool.and_eq_true, List.all_eq_true] at this
      have := this.1.1 e he
      simp only [hb, Bool.not_true, Bool.false_or, blt_iff] at this
      exact this
    · have := one i o ho
      simp only [oneOk, poAt, Bool.and_eq_true, hd] at this
      have := this.1.2
      simp only [Bool.or_eq_true, Bool.not_eq_true', List.contains_eq_mem, decide_eq_false_iff_not] at this
      exact this.resolve_left (fun q => q hm)
    · have := one i o ho
      simp only [oneOk, poAt, Bool.and_eq_true, hg] at this
      obtain ⟨k1, k2⟩ := this.2
      refine ⟨k1, ?_⟩
      split at k2
      · rename_i d hd
        cases hq : ops[g]? with
        | none => rw [hq] at hd; cases hd
        | some o' => rw [hq] at hd; exact ⟨o', d, rfl, hd⟩
      · cases k2
    · have := pr i j a b hij ha hb
      simp only [pairOk, poAt, Bool.and_eq_true, la, lb, Bool.and_self, Bool.not_true, Bool.false_or] at this
      exact this.1.1
    · have := pr i j a b hij ha hb
      simp only [pairOk, poAt, Bool.and_eq_true, hd] at this
      have := this.1.2.1
      intro q
      rw [q] at this
      simp at this
    · have := pr i j a b hij ha hb
      simp only [pairOk, poAt, Bool.and_eq_true, hd] at this
      have := this.1.2.2
      simp only [Bool.or_eq_true, Bool.not_eq_true', List.contains_eq_mem, decide_eq_false_iff_not] at this
      exact this.resolve_left (fun q => q hm)
    · have := pr i j a b hij ha hb
      simp only [pairOk, poAt, Bool.and_eq_true, hd] at this
      have := this.2
      simp only [Bool.or_eq_true, Bool.not_eq_true', List.contains_eq_mem, decide_eq_false_iff_not, Bool.and_eq_true] at this
      exact (this.resolve_left (fun q => q hm)).1
  · cases h

/-! ### Schedules -/
def Topo (ops : Array Oper) : List Nat → Prop
  | [] => True
  | i :: ys => (∀ j, Must ops i j → j ∉ i :: ys) ∧ Topo ops ys

theorem linearise_go_ok {ops : Array Oper} (R : RegOk ops) : ∀ (fuel t : Nat) (listed : Array Bool), listed.size = ops.size →
    ((List.range ops.size).filter fun i => !listed.getD i true).length = fuel →
    (∀ i, i < ops.size → listed.getD i false = true → ∀ j, Must ops i j → listed.getD j false = true) →
    let l := Region.linearise.go .any ops fuel t listed []
    l.Nodup ∧ (∀ i, i ∈ l ↔ i < ops.size ∧ listed.getD i true = false) ∧ Topo ops l := by
  intro fuel
  induction fuel with
  | zero =>
    intro t listed hs hf _
    have hnone : ∀ i, ¬ (i < ops.size ∧ listed.getD i true = false) := by
      rintro i ⟨h1, h2⟩
      have : i ∈ (List.range ops.size).filter fun i => !listed.getD i true := List.mem_filter.2 ⟨List.mem_range.2 h1, by rw [h2]; rfl⟩
      rw [List.length_eq_zero_iff.1 hf] at this
      cases this
    refine ⟨?_, fun i => ⟨fun h => ?_, fun h => absurd h (hnone i)⟩, ?_⟩
    · simp [Region.linearise.go]
    · simp [Region.linearise.go] at h
    · simp [Region.linearise.go, Topo]
  | succ fuel ih =>
    intro t listed hs hf hcl
    have hready : Region.ready .any ops listed ≠ [] := by
      obtain ⟨x, hx⟩ : ∃ x, x ∈ (List.range ops.size).filter fun i => !listed.getD i true := by
        cases hq : (List.range ops.size).filter fun i => !listed.getD i true with
        | nil => rw [hq] at hf; cases hf
        | cons x xs => exact ⟨x, by simp⟩
      -- the least one that isn't listed
      have : ∀ n x, x < n → x < ops.size → listed.getD x true = false → ∃ y, y ∈ Region.ready .any ops listed := by
        intro n
        induction n with
        | zero => intro x hx; omega
        | succ n ihn =>
          intro x hx hxs hl
          obtain ⟨o, ho⟩ : ∃ o, ops[x]? = some o := ⟨ops[x], by simp [hxs]⟩
          by_cases hall : ∀ e ∈ o.after, Region.binds .any e = true → listed.getD e.on false = true
          · exact ⟨x, mem_ready.2 ⟨hl, o, ho, hall⟩⟩
          · have : ∃ e, e ∈ o.after ∧ Region.binds .any e = true ∧ listed.getD e.on false ≠ true := by
              refine Classical.byContradiction fun hno => hall fun e he hb => ?_
              exact Classical.byContradiction fun q => hno ⟨e, he, hb, q⟩
            obtain ⟨e, he, hb, hq⟩ := this
            have hlt := R.edge x o ho e (by simpa using he) hb
            refine ihn e.on (by omega) (by omega) ?_
            have hlt2 : e.on < listed.size := by omega
            simp [hlt2] at hq ⊢
            exact hq
      obtain ⟨h1, h2⟩ := List.mem_filter.1 hx
      obtain ⟨y, hy⟩ := this (x + 1) x (by omega) (List.mem_range.1 h1) (by simpa using h2)
      intro q; rw [q] at hy; cases hy
    have hlen : 0 < (Region.ready .any ops listed).length := List.length_pos_iff.2 hready
    have hmod : t % (Region.ready .any ops listed).length < (Region.ready .any ops listed).length := Nat.mod_lt _ hlen
    obtain ⟨i, hi⟩ : ∃ i, (Region.ready .any ops listed)[t % (Region.ready .any ops listed).length]? = some i := ⟨_, List.getElem?_eq_getElem hmod⟩
    have him : i ∈ Region.ready .any ops listed := List.mem_of_getElem? hi
    obtain ⟨k1, o, ko, k2⟩ := mem_ready.1 him
    have hilt : i < ops.size := (Array.getElem?_eq_some_iff.1 ko).1
    have hgo : Region.linearise.go .any ops (fuel + 1) t listed [] = i :: Region.linearise.go .any ops fuel (t / (Region.ready .any ops listed).length) (listed.setIfInBounds i true) [] := by
      rw [Region.linearise.go]
      show (match (Region.ready .any ops listed)[t % (Region.ready .any ops listed).length]? with
        | some i => Region.linearise.go .any ops fuel (t / (Region.ready .any ops listed).length) (listed.setIfInBounds i true) (i :: [])
        | none => List.reverse []) = _
      rw [hi]
      simp only
      rw [linearise_go_acc]
      rfl
    have hget : ∀ j d, (listed.setIfInBounds i true).getD j d = if i = j then true else listed.getD j d := by
      intro j d
      by_cases q : i = j
      · subst q; simp [hs, hilt]
      · rw [getD_set_ne d q, if_neg q]
    have hmust : ∀ j, Must ops i j → listed.getD j false = true := by
      intro j hj
      obtain ⟨e, he, hb, hlt, h⟩ := (must_iff ko j).1 hj
      have h0 := k2 e (by simpa using he) hb
      rcases h with h | h
      · rw [← h]; exact h0
      · exact hcl e.on (by omega) h0 j h
    have hf' : ((List.range ops.size).filter fun j => !(listed.setIfInBounds i true).getD j true).length = fuel := by
      have hsplit : (List.range ops.size).filter (fun j => !(listed.setIfInBounds i true).getD j true) = ((List.range ops.size).filter fun j => !listed.getD j true).filter (fun j => decide (j ≠ i)) := by
        rw [List.filter_filter]
        apply List.filter_congr
        intro j _
        rw [hget]
        by_cases q : i = j
        · subst q; simp
        · rw [if_neg q]
          have : decide (j ≠ i) = true := by simp; exact fun e => q e.symm
          rw [this]; simp
      rw [hsplit]
      have hnd : ((List.range ops.size).filter fun j => !listed.getD j true).Nodup := List.nodup_range.filter _
      have hmem : i ∈ (List.range ops.size).filter fun j => !listed.getD j true := List.mem_filter.2 ⟨List.mem_range.2 hilt, by rw [k1]; rfl⟩
      have h3 := List.Nodup.erase_eq_filter hnd i
      have h4 := List.length_erase_of_mem hmem
      have h5 : (((List.range ops.size).filter fun j => !listed.getD j true).filter (fun j => decide (j ≠ i))) = ((List.range ops.size).filter fun j => !listed.getD j true).filter (fun x => x != i) := by
        apply List.filter_congr; intro j _; by_cases q : j = i <;> simp [q]
      rw [h5, ← h3, h4, hf]
      rfl
    have hcl' : ∀ j, j < ops.size → (listed.setIfInBounds i true).getD j false = true → ∀ k, Must ops j k → (listed.setIfInBounds i true).getD k false = true := by
      intro j hj hl k hk
      rw [hget] at hl ⊢
      by_cases q : i = k
      · rw [if_pos q]
      · rw [if_neg q]
        by_cases q2 : i = j
        · subst q2; exact hmust k hk
        · rw [if_neg q2] at hl; exact hcl j hj hl k hk
    obtain ⟨q1, q2, q3⟩ := ih (t / (Region.ready .any ops listed).length) (listed.setIfInBounds i true) (by simpa using hs) hf' hcl'
    rw [hgo]
    refine ⟨List.nodup_cons.2 ⟨fun q => ?_, q1⟩, fun j => ?_, fun j hj hm => ?_, q3⟩
    · have := ((q2 i).1 q).2
      rw [hget, if_pos rfl] at this; cases this
    · rw [List.mem_cons, q2, hget]
      constructor
      · rintro (rfl | ⟨g1, g2⟩)
        · exact ⟨hilt, k1⟩
        · by_cases q : i = j
          · rw [if_pos q] at g2; cases g2
          · rw [if_neg q] at g2; exact ⟨g1, g2⟩
      · rintro ⟨g1, g2⟩
        by_cases q : i = j
        · exact .inl q.symm
        · right; rw [if_neg q]; exact ⟨g1, g2⟩
    · have hl := hmust j hj
      have hji := (must_lt i j hj).2
      rcases List.mem_cons.1 hm with q | q
      · omega
      · have := ((q2 j).1 q).2
        rw [hget, if_neg (by omega)] at this
        have hlt2 : j < listed.size := by omega
        have h9 : listed.getD j false = listed.getD j true := by simp [hlt2]
        rw [h9, this] at hl; cases hl

theorem schedule_ok {ops : Array Oper} (R : RegOk ops) (t : Nat) :
    (Region.schedule true ops t).Nodup ∧ (∀ i, i ∈ Region.schedule true ops t ↔ i < ops.size) ∧ Topo ops (Region.schedule true ops t) := by
  have h := linearise_go_ok R ops.size t (Array.replicate ops.size false) (by simp) (by
      rw [List.filter_eq_self.2 ?_, List.length_range]
      intro i hi
      have := List.mem_range.1 hi
      simp [this]) (by intro i hi h; simp [hi] at h)
  have e : Region.schedule true ops t = Region.linearise.go .any ops ops.size t (Array.replicate ops.size false) [] := by
    simp [Region.schedule, Region.linearise]
  rw [e]
  obtain ⟨h1, h2, h3⟩ := h
  refine ⟨h1, fun i => ?_, h3⟩
  rw [h2]
  constructor
  · exact fun q => q.1
  · exact fun q => ⟨q, by simp [q]⟩
end Go.AX

namespace Go.AX
open Go Go.RowKit

/-! ### Frames -/
def kindOf : Bool → CallKind
  | true => .deferred
  | false => .normal
def modeOf : AMode → FrameMode
  | .run => .run
  | .returning => .returning

def IR (L : Lay) : AItem → Item → Prop
  | .code c, i => i = .code c
  | .inBlock n, i => i = .inBlock n
  | .inLoop c, i => i = .inLoop c
  | .inScope c, i => i = .inScope c
  | .inRegion ops todo, i => i = .inRegion ops todo
  | .draw .., _ => False
  | .drawCall .., _ => False
  | .inRangeFunc b, i => ∃ c, L b = some c ∧ i = .inRangeFunc c.blk
  | .endRangeFunc b, i => ∃ c, L b = some c ∧ i = .endRangeFunc c.blk
  | .beginRound, i => i = .beginRound
def IRL (L : Lay) : List AItem → List Item → Prop
  | [], l => l = []
  | a :: as, l => ∃ x xs, l = x :: xs ∧ IR L a x ∧ IRL L as xs
def RoundR (L : Lay) : Option Nat → Option Nat → Prop
  | none, r => r = none
  | some b, r => ∃ c, L b = some c ∧ r = some c.blk

section
variable {L M : Lay}
theorem IR.mono (h : L.le M) : ∀ {a : AItem} {i : Item}, IR L a i → IR M a i
  | .code _, _, e => e
  | .inBlock _, _, e => e
  | .inLoop _, _, e => e
  | .inScope _, _, e => e
  | .inRegion .., _, e => e
  | .draw .., _, e => e
  | .drawCall .., _, e => e
  | .inRangeFunc _, _, ⟨c, k, e⟩ => ⟨c, h _ _ k, e⟩
  | .endRangeFunc _, _, ⟨c, k, e⟩ => ⟨c, h _ _ k, e⟩
  | .beginRound, _, e => e
theorem IRL.mono (h : L.le M) : ∀ {as : List AItem} {l : List Item}, IRL L as l → IRL M as l
  | [], _, e => e
  | _ :: _, _, ⟨x, xs, e, h1, h2⟩ => ⟨x, xs, e, h1.mono h, IRL.mono h h2⟩
theorem RoundR.mono (h : L.le M) : ∀ {a b : Option Nat}, RoundR L a b → RoundR M a b
  | none, _, e => e
  | some _, _, ⟨c, k, e⟩ => ⟨c, h _ _ k, e⟩
end

/-- which slots are as they are known to be: those that no quiet operation has yet to write -/
def okSlot (ops : Array Oper) (rest : List Nat) (d : Nat) : Prop := ∀ i ∈ rest, ∀ o, ops[i]? = some o → loud o.op = false → o.dst ≠ some d

/-- a region's draw, under way -/
structure DrawR (L : Lay) (lo hi : Nat) (ops : Array Oper) (mk : List (Nat × Nat)) (did todo : List PO) (rest : List Nat) (t : T AV) (tmps : Array Value) : Prop where
  reg : RegOk ops
  loud : (allOf ops).filter (·.lo) = did.reverse ++ todo
  topo : Topo ops rest
  nodup : rest.Nodup
  inb : ∀ i ∈ rest, i < ops.size
  didD : ∀ l ∈ did, l.i ∉ rest
  todoD : ∀ l ∈ todo, l.i ∈ rest
  shut : ∀ i, i < ops.size → i ∉ rest → ∀ j, Must ops i j → j ∉ rest
  slots : TRx L (okSlot ops rest) t tmps
  made : ∀ p ∈ mk, lo ≤ p.2 ∧ p.2 < hi ∧ (p.1 ∈ rest → L p.2 = none)
  apart : mk.Pairwise (fun p q => p.2 ≠ q.2)

/-- no operation is done that only now comes to be ready -/
def Early (ops : Array Oper) (did : List PO) (rest : List Nat) : Prop :=
  ∀ i o, ops[i]? = some o → loud o.op = false → i ∉ rest → match did with | [] => False | l :: _ => ¬ Must ops i l.i

theorem DrawR.mono {L M : Lay} {lo hi hi' : Nat} {ops : Array Oper} {mk : List (Nat × Nat)} {did todo : List PO} {rest : List Nat} {t : T AV} {tmps : Array Value}
    (d : DrawR L lo hi ops mk did todo rest t tmps) (h : L.le M) (ho : ∀ b, b < hi → M b = L b) (hh : hi ≤ hi') : DrawR M lo hi' ops mk did todo rest t tmps :=
  ⟨d.reg, d.loud, d.topo, d.nodup, d.inb, d.didD, d.todoD, d.shut, d.slots.mono h, fun p hp => by
    obtain ⟨h1, h2, h3⟩ := d.made p hp
    exact ⟨h1, by omega, fun q => by rw [ho _ h2]; exact h3 q⟩, d.apart⟩

def TodoR (L : Lay) (lo hi : Nat) (t : T AV) (tmps : Array Value) (as : List AItem) (fs : List Item) : Prop :=
  (IRL L as fs ∧ TR L t tmps) ∨
  (∃ ops mk did todo rest k xs, as = .draw ops (phases (allOf ops) did todo) mk :: k ∧ fs = .inRegion ops rest :: xs ∧ IRL L k xs ∧ DrawR L lo hi ops mk did todo rest t tmps ∧ Early ops did rest) ∨
  (∃ ops mk did l todo rest k xs, as = .drawCall ops l.i (phases (allOf ops) (l :: did) todo) mk :: k ∧ fs = .inRegion ops (l.i :: rest) :: xs ∧ IRL L k xs ∧ DrawR L lo hi ops mk did (l :: todo) (l.i :: rest) t tmps)

theorem TodoR.mono {L M : Lay} {lo hi hi' : Nat} {t : T AV} {tmps : Array Value} {as : List AItem} {fs : List Item} (r : TodoR L lo hi t tmps as fs) (h : L.le M) (ho : ∀ b, b < hi → M b = L b) (hh : hi ≤ hi') : TodoR M lo hi' t tmps as fs := by
  rcases r with ⟨h1, h2⟩ | ⟨ops, mk, did, todo, rest, k, xs, h1, h2, h3, h4, h5⟩ | ⟨ops, mk, did, l, todo, rest, k, xs, h1, h2, h3, h4⟩
  · exact .inl ⟨h1.mono h, h2.mono h⟩
  · exact .inr (.inl ⟨ops, mk, did, todo, rest, k, xs, h1, h2, h3.mono h, h4.mono h ho hh, h5⟩)
  · exact .inr (.inr ⟨ops, mk, did, l, todo, rest, k, xs, h1, h2, h3.mono h, h4.mono h ho hh⟩)

structure FrameR (L : Lay) (lo hi : Nat) (a : AFrame) (f : Frame) : Prop where
  fn : f.fn = a.fn
  sz : f.tmps.size = a.sz
  todo : a.mode = .run → TodoR L lo hi a.tmps f.tmps a.todo f.todo
  slots : a.mode = .returning → TR L a.tmps f.tmps
  defers : DRL L a.defers f.defers
  mode : f.mode = modeOf a.mode
  kind : f.kind = kindOf a.deferred
  round : RoundR L a.round f.roundOf

theorem FrameR.mono {L M : Lay} {lo hi hi' : Nat} {a : AFrame} {f : Frame} (r : FrameR L lo hi a f) (h : L.le M) (ho : ∀ b, b < hi → M b = L b) (hh : hi ≤ hi') : FrameR M lo hi' a f :=
  ⟨r.fn, r.sz, fun q => (r.todo q).mono h ho hh, fun q => (r.slots q).mono h, r.defers.mono h, r.mode, r.kind, r.round.mono h⟩

def StackR (L : Lay) (base : Nat) (cs0 : List Frame) : List AFrame → List Frame → Nat → Prop
  | [], fs, hi => fs = cs0 ∧ base ≤ hi
  | a :: as, fs, hi => ∃ f gs lo, fs = f :: gs ∧ lo ≤ hi ∧ FrameR L lo hi a f ∧ StackR L base cs0 as gs lo
theorem StackR.mono {L M : Lay} {base : Nat} {cs0 : List Frame} (h : L.le M) : ∀ {as : List AFrame} {fs : List Frame} {hi hi' : Nat}, StackR L base cs0 as fs hi → (∀ b, b < hi → M b = L b) → hi ≤ hi' → StackR M base cs0 as fs hi'
  | [], _, _, _, ⟨e, k⟩, _, hh => ⟨e, by omega⟩
  | _ :: _, _, _, _, ⟨f, gs, lo, e, h1, h2, h3⟩, ho, hh => ⟨f, gs, lo, e, by omega, h2.mono h ho hh, StackR.mono h h3 (fun b hb => ho b (by omega)) (Nat.le_refl _)⟩
theorem StackR.base {L : Lay} {base : Nat} {cs0 : List Frame} : ∀ {as : List AFrame} {fs : List Frame} {hi : Nat}, StackR L base cs0 as fs hi → base ≤ hi
  | [], _, _, ⟨_, k⟩ => k
  | _ :: _, _, _, ⟨_, _, _, _, h1, _, h3⟩ => Nat.le_trans h3.base h1

/-! ### A slot is written -/
def setDst (tmps : Array Value) (d : Option Tmp) (v : Value) : Array Value := match d with
  | some d => tmps.setIfInBounds d v
  | none => tmps
theorem setDst_size (tmps : Array Value) (d : Option Tmp) (v : Value) : (setDst tmps d v).size = tmps.size := by cases d <;> simp [setDst]
theorem setDst_getD (tmps : Array Value) (d : Nat) (v : Value) (i : Nat) : (setDst tmps (some d) v).getD i undef = if i = d ∧ d < tmps.size then v else tmps.getD i undef := by
  simp only [setDst]
  by_cases q : i = d
  · subst q
    by_cases q2 : i < tmps.size
    · simp [q2]
    · simp [q2]
  · rw [if_neg (fun h => q h.1)]
    simp [Array.getElem?_setIfInBounds_ne (Ne.symm q)]
theorem TRx.put {L : Lay} {ok ok' : Nat → Prop} {t : T AV} {tmps : Array Value} (h : TRx L ok t tmps) {dst : Option Tmp} (hok : ∀ d, ok' d → dst = some d ∨ ok d) {v : AV} {val : Value} (hv : VR L v val) :
    TRx L ok' (tput tmps.size t dst v) (setDst tmps dst val) := by
  intro i a e
  rw [setDst_size]
  cases dst with
  | none =>
    simp only [tput] at e
    exact ⟨(h i a e).1, fun q => (h i a e).2 ((hok i q).resolve_left (by simp))⟩
  | some d =>
    simp only [tput] at e
    rw [setDst_getD]
    split at e
    · rename_i hd
      have hd' := blt_iff.1 hd
      rw [T.get_set] at e
      split at e
      · rename_i q; subst q
        injection e with e; subst e
        exact ⟨hd', fun _ => by rw [if_pos ⟨rfl, hd'⟩]; exact hv⟩
      · rename_i q
        refine ⟨(h i a e).1, fun k => ?_⟩
        rw [if_neg (fun z => q z.1)]
        exact (h i a e).2 ((hok i k).resolve_left (by simp; exact fun z => q z.symm))
    · rename_i hd
      have hd' := blt_not.1 hd
      obtain ⟨h1, h2⟩ := h i a e
      refine ⟨h1, fun k => ?_⟩
      rw [if_neg (fun z => hd' z.2)]
      exact h2 ((hok i k).resolve_left (fun e => hd' (by injection e with e; rw [e]; exact h1)))

theorem Frame.finish_region (f : Frame) {ops : Array Oper} {i : Nat} {rest : List Nat} {k : List Item} (h : f.todo = .inRegion ops (i :: rest) :: k) (v : Value) :
    f.finish v = { f with tmps := setDst f.tmps ((ops[i]?).bind (·.dst)) v, todo := .inRegion ops rest :: k } := by
  unfold Frame.finish
  rw [h]
  simp only
  cases (ops[i]?).bind (·.dst) <;> rfl

theorem all_index_inj {ops : Array Oper} {a b : PO} (ha : a ∈ allOf ops) (hb : b ∈ allOf ops) (h : a.i = b.i) : a = b := by
  obtain ⟨i, o, h1, rfl⟩ := mem_all.1 ha
  obtain ⟨j, o', h2, rfl⟩ := mem_all.1 hb
  simp only [poAt] at h; subst h
  rw [h1] at h2; injection h2 with h2; subst h2; rfl

section
variable {L : Lay} {lo hi : Nat}
theorem DrawR.todo_mem {ops : Array Oper} {mk : List (Nat × Nat)} {did todo : List PO} {rest : List Nat} {t : T AV} {tmps : Array Value} (d : DrawR L lo hi ops mk did todo rest t tmps) {l : PO} (h : l ∈ todo) : l ∈ allOf ops ∧ l.lo = true := by
  have : l ∈ (allOf ops).filter (·.lo) := by rw [d.loud]; simp [h]
  exact List.mem_filter.1 this
theorem DrawR.did_mem {ops : Array Oper} {mk : List (Nat × Nat)} {did todo : List PO} {rest : List Nat} {t : T AV} {tmps : Array Value} (d : DrawR L lo hi ops mk did todo rest t tmps) {l : PO} (h : l ∈ did) : l ∈ allOf ops ∧ l.lo = true := by
  have : l ∈ (allOf ops).filter (·.lo) := by rw [d.loud]; simp [h]
  exact List.mem_filter.1 this
theorem DrawR.todo_rising {ops : Array Oper} {mk : List (Nat × Nat)} {did todo : List PO} {rest : List Nat} {t : T AV} {tmps : Array Value} (d : DrawR L lo hi ops mk did todo rest t tmps) : todo.Pairwise (fun a b => a.i < b.i) := by
  have h1 : ((allOf ops).filter (·.lo)).Pairwise (fun a b => a.i < b.i) := (all_rising ops).filter _
  rw [d.loud] at h1
  exact (List.pairwise_append.1 h1).2.1

/-- the loud operation whose turn it was is done -/
theorem DrawR.did_one {ops : Array Oper} {mk : List (Nat × Nat)} {did todo : List PO} {l : PO} {rest : List Nat} {t : T AV} {tmps : Array Value} (d : DrawR L lo hi ops mk did (l :: todo) (l.i :: rest) t tmps) {v : AV} {val : Value} (hv : VR L v val) :
    DrawR L lo hi ops mk (l :: did) todo rest (tput tmps.size t ((ops[l.i]?).bind (·.dst)) v) (setDst tmps ((ops[l.i]?).bind (·.dst)) val) ∧ Early ops (l :: did) rest := by
  obtain ⟨hl1, hl2⟩ := d.todo_mem (List.mem_cons_self ..)
  obtain ⟨li, lo', ho, rfl⟩ := mem_all.1 hl1
  simp only [poAt] at hl2 d ⊢
  obtain ⟨t1, t2⟩ := d.topo
  obtain ⟨n1, n2⟩ := List.nodup_cons.1 d.nodup
  refine ⟨⟨d.reg, by rw [d.loud]; simp, t2, n2, fun i hi => d.inb i (List.mem_cons_of_mem _ hi), fun x hx => ?_, fun x hx => ?_, fun i hi hni j hj => ?_, ?_, fun p hp => ?_, d.apart⟩, fun i o hio hq hni => ?_⟩
  · rcases List.mem_cons.1 hx with rfl | hx
    · exact n1
    · exact fun q => d.didD x hx (List.mem_cons_of_mem _ q)
  · have h1 := d.todoD x (List.mem_cons_of_mem _ hx)
    have h2 := (List.pairwise_cons.1 d.todo_rising).1 x hx
    simp only at h2
    rcases List.mem_cons.1 h1 with q | q
    · omega
    · exact q
  · by_cases q : i = li
    · subst q
      exact fun z => t1 j hj (List.mem_cons_of_mem _ z)
    · exact fun z => d.shut i hi (by simp [q, hni]) j hj (List.mem_cons_of_mem _ z)
  · refine d.slots.put (fun x hx => ?_) hv
    by_cases q : (ops[li]?).bind (·.dst) = some x
    · exact .inl q
    · right
      intro i hi o hio hq
      rcases List.mem_cons.1 hi with rfl | hi
      · rw [ho] at hio; injection hio with hio; subst hio; rw [hl2] at hq; cases hq
      · exact hx i hi o hio hq
  · obtain ⟨h1, h2, h3⟩ := d.made p hp
    exact ⟨h1, h2, fun q => h3 (List.mem_cons_of_mem _ q)⟩
  · show ¬ Must ops i li
    intro hm
    have hne : i ≠ li := fun q => by subst q; rw [ho] at hio; injection hio with hio; subst hio; rw [hl2] at hq; cases hq
    have hlt := (Array.getElem?_eq_some_iff.1 hio).1
    exact d.shut i hlt (by simp [hne, hni]) li hm (List.mem_cons_self ..)

theorem finish_sound {a a' : AFrame} {f : Frame} (r : FrameR L lo hi a f) (hrun : a.mode = .run) {v : AV} {val : Value} (e : a.finish v = some a') (hv : VR L v val) : FrameR L lo hi a' (f.finish val) := by
  obtain ⟨fn, sz, tmps, todo, defers, mode, deferred, round⟩ := a
  obtain ⟨r1, r2, r3, r3', r4, r5, r6, r7⟩ := r
  simp only at r1 r2 r3 r3' r4 r5 r6 r7 hrun
  subst r2; subst hrun
  replace r3 := r3 rfl
  unfold AFrame.finish at e
  simp only at e
  split at e
  · rename_i ops i rest k
    injection e with e; subst e
    rcases r3 with ⟨h1, h2⟩ | ⟨ops', mk, did, todo', rest', k', xs, h1, _⟩ | ⟨ops', mk, did, l, todo', rest', k', xs, h1, _⟩
    · obtain ⟨x, xs, hx, h3, h4⟩ := h1
      simp only [IR] at h3; subst h3
      rw [Frame.finish_region f hx]
      exact ⟨r1, setDst_size .., fun _ => .inl ⟨⟨_, _, rfl, rfl, h4⟩, TRx.put h2 (fun _ _ => .inr trivial) hv⟩, fun q => by (cases q), r4, r5, r6, r7⟩
    · cases h1
    · cases h1
  · rename_i ops i ph mk k
    injection e with e; subst e
    rcases r3 with ⟨h1, h2⟩ | ⟨ops', mk', did, todo', rest', k', xs, h1, _⟩ | ⟨ops', mk', did, l, todo', rest', k', xs, h1, h2, h3, h4⟩
    · obtain ⟨x, xs, hx, h3, h4⟩ := h1
      exact h3.elim
    · cases h1
    · injection h1 with h1 hk
      injection h1 with e1 e2 e3 e4
      subst e1; subst e2; subst e3; subst e4; subst hk
      rw [Frame.finish_region f h2]
      obtain ⟨g1, g2⟩ := h4.did_one hv
      exact ⟨r1, setDst_size .., fun _ => .inr (.inl ⟨_, _, _, _, _, _, _, rfl, rfl, h3, g1, g2⟩), fun q => by (cases q), r4, r5, r6, r7⟩
  · rename_i l k
    injection e with e; subst e
    rcases r3 with ⟨h1, h2⟩ | ⟨ops', mk', did, todo', rest', k', xs, h1, _⟩ | ⟨ops', mk', did, l, todo', rest', k', xs, h1, h2, h3, h4⟩
    · obtain ⟨x, xs, hx, ⟨c, hc, h3⟩, h4⟩ := h1
      subst h3
      have : f.finish val = { f with todo := .endRangeFunc c.blk :: xs } := by simp [Frame.finish, hx]
      rw [this]
      exact ⟨r1, rfl, fun _ => .inl ⟨⟨_, _, rfl, ⟨c, hc, rfl⟩, h4⟩, h2⟩, fun q => by (cases q), r4, r5, r6, r7⟩
    · cases h1
    · cases h1
  · rename_i k
    injection e with e; subst e
    rcases r3 with ⟨h1, h2⟩ | ⟨ops', mk', did, todo', rest', k', xs, h1, _⟩ | ⟨ops', mk', did, l, todo', rest', k', xs, h1, h2, h3, h4⟩
    · obtain ⟨x, xs, hx, h3, h4⟩ := h1
      simp only [IR] at h3; subst h3
      have : f.finish val = { f with todo := xs } := by simp [Frame.finish, hx]
      rw [this]
      exact ⟨r1, rfl, fun _ => .inl ⟨h4, h2⟩, fun q => by (cases q), r4, r5, r6, r7⟩
    · cases h1
    · cases h1
  · cases e

/-- what stands first is no call of the machine's own -/
def Frame.plainTop (f : Frame) : Prop := ∀ d b r s k, f.todo ≠ .call d b r s :: k
theorem FrameR.plain {a : AFrame} {f : Frame} (r : FrameR L lo hi a f) (hrun : a.mode = .run) : Frame.plainTop f ∧ ∀ row args k, f.todo ≠ .extern row args :: k := by
  rcases r.todo hrun with ⟨h1, h2⟩ | ⟨ops', mk', did, todo', rest', k', xs, h1, h2, _⟩ | ⟨ops', mk', did, l, todo', rest', k', xs, h1, h2, h3, h4⟩
  · cases ht : a.todo with
    | nil => rw [ht] at h1; simp only [IRL] at h1; simp [Frame.plainTop, h1]
    | cons x xs =>
      rw [ht] at h1
      obtain ⟨y, ys, hy, h3, _⟩ := h1
      constructor
      · intro d b r s k e
        rw [hy] at e; injection e with e; subst e
        cases x <;> simp [IR] at h3
      · intro row args k e
        rw [hy] at e; injection e with e; subst e
        cases x <;> simp [IR] at h3
  · constructor
    · intro d b r s k e; rw [h2] at e; cases e
    · intro row args k e; rw [h2] at e; cases e
  · constructor
    · intro d b r s k e; rw [h2] at e; cases e
    · intro row args k e; rw [h2] at e; cases e
end
end Go.AX

namespace Go.AX
open Go Go.RowKit

/-! ### One step at an operation -/
section
variable {P : Program}
theorem stepG_op_of {f : Frame} {ops : Array Oper} {i : Nat} {ys : List Nat} {xs : List Item} {o : Oper} {gs : List Frame} {w : World} (hm : f.mode = .run) (ht : f.todo = .inRegion ops (i :: ys) :: xs) (ho : ops[i]? = some o)
    (hw : Region.wanted o (yielded ops f.tmps) = true) (hnd : f.roundOf = none ∨ ∀ c, o.op ≠ .defer c) :
    stepG P true { frame := f, callers := gs, status := .running, dying := none } w = stepG.apply P true f gs none (execOp f.eval o) w := by
  have h1 : stepG P true { frame := f, callers := gs, status := .running, dying := none } w = stepG.oper P true f gs none w := by
    simp [stepG, hm, stepG.exec, ht, ho, hw]
  rw [h1]
  unfold stepG.oper
  have : f.oper? = some o := by simp [Frame.oper?, ht, ho]
  rw [this]
  simp only
  split
  · rename_i h2 h3
    rcases hnd with h | h
    · rw [h] at h2; cases h2
    · exact absurd h3 (h _)
  · rfl
theorem step_skip_of {f : Frame} {ops : Array Oper} {i : Nat} {ys : List Nat} {xs : List Item} {gs : List Frame} {w : World} (hm : f.mode = .run) (ht : f.todo = .inRegion ops (i :: ys) :: xs)
    (hw : ((ops[i]?).map (Region.wanted · (yielded ops f.tmps))).getD false = false) : step P (lone f gs w) = .next (lone (f.finish undef) gs w) :=
  step_lone_go (by simp [stepG, hm, stepG.exec, ht, hw])
theorem step_value_of {f : Frame} {gs : List Frame} {s : Sem Next} {w w' : World} {nxt : Next} {val : Value} (hg : stepG P true { frame := f, callers := gs, status := .running, dying := none } w = stepG.apply P true f gs none s w)
    (hr : s.run P w = .ok nxt w') (hn : nxt = .value val ∨ nxt = .skip ∧ val = undef) : step P (lone f gs w) = .next (lone (f.finish val) gs w') := by
  refine step_lone_go ?_
  rw [hg]
  rcases hn with rfl | ⟨rfl, rfl⟩ <;> simp [stepG.apply, hr]
end

theorem MR.unlaid {B : Nat} {w0 : World} {L : Lay} {h : Heap} {w : World} (m : MR B w0 L h w) {b : Nat} (hb : L b = none) (o : AObj) : MR B w0 L (h.set b o) w := by
  have key : ∀ {x y c}, (h.set b o).get x = some y → L x = some c → h.get x = some y := by
    intro x y c hx hc
    rw [T.get_set] at hx
    split at hx
    · rename_i q; subst q; rw [hb] at hc; cases hc
    · exact hx
  exact ⟨fun x y c hx hc => m.obj x y c (key hx hc) hc, fun x x' y y' c c' hx hx' hc hc' => m.inj x x' y y' c c' (key hx hc) (key hx' hc') hc hc', fun x y c hx hc => m.own x y c (key hx hc) hc, m.below, m.low⟩
theorem MR.ext {B : Nat} {w0 : World} {L : Lay} {h h' : Heap} {w : World} (m : MR B w0 L h w) (hs : ∀ b o, L b ≠ none → h'.get b = some o → h.get b = some o) : MR B w0 L h' w := by
  have key : ∀ {x y c}, h'.get x = some y → L x = some c → h.get x = some y := fun {x y c} hx hc => hs x y (by rw [hc]; simp) hx
  exact ⟨fun x y c hx hc => m.obj x y c (key hx hc) hc, fun x x' y y' c c' hx hx' hc hc' => m.inj x x' y y' c c' (key hx hc) (key hx' hc') hc hc', fun x y c hx hc => m.own x y c (key hx hc) hc, m.below, m.low⟩

/-! ### Alike -/
mutual
theorem avEq_sound : ∀ {a b : AV}, avEq a b = true → a = b
  | .bool _, b, h => by cases b <;> simp [avEq] at h; rw [h]
  | .int .., b, h => by cases b <;> simp [avEq] at h; rw [h.1, h.2]
  | .float .., b, h => by cases b <;> simp [avEq] at h; rw [h.1, h.2]
  | .str .., b, h => by cases b <;> simp [avEq] at h; rw [h.1, h.2]
  | .nilp, b, h => by cases b <;> simp [avEq] at h; rfl
  | .ptr .., b, h => by cases b <;> simp [avEq] at h; rw [h.1, h.2]
  | .nils, b, h => by cases b <;> simp [avEq] at h; rfl
  | .slice .., b, h => by
    cases b <;> simp [avEq] at h
    obtain ⟨⟨⟨⟨⟨h1, h2⟩, h3⟩, h4⟩, h5⟩, h6⟩ := h
    rw [h1, h2, h3, h4, h5, h6]
  | .nilm, b, h => by cases b <;> simp [avEq] at h; rfl
  | .map _, b, h => by cases b <;> simp [avEq] at h; rw [h]
  | .func .., b, h => by
    cases b <;> simp [avEq] at h
    obtain ⟨⟨h1, h2⟩, h3⟩ := h
    rw [h1, avEqL_sound h2, avEqL_sound h3]
  | .yield _, b, h => by cases b <;> simp [avEq] at h; rw [h]
  | .nilf, b, h => by cases b <;> simp [avEq] at h; rfl
  | .iface .., b, h => by
    cases b <;> simp [avEq] at h
    rw [h.1, avEq_sound h.2]
  | .nili, b, h => by cases b <;> simp [avEq] at h; rfl
  | .agg _, b, h => by cases b <;> simp [avEq] at h; rw [avEqL_sound h]
  | .tuple _, b, h => by cases b <;> simp [avEq] at h; rw [avEqL_sound h]
  | .top, b, h => by cases b <;> simp [avEq] at h
theorem avEqL_sound : ∀ {a b : List AV}, avEqL a b = true → a = b
  | [], b, h => by cases b <;> simp [avEqL] at h; rfl
  | _ :: _, b, h => by
    cases b <;> simp [avEqL] at h
    rw [avEq_sound h.1, avEqL_sound h.2]
end
theorem entEq_sound : ∀ {a b : List (AV × AV × Nat)}, entEq a b = true → a = b
  | [], b, h => by cases b <;> simp [entEq] at h; rfl
  | ⟨_, _, _⟩ :: _, b, h => by
    cases b <;> simp [entEq] at h
    rename_i y ys
    obtain ⟨y1, y2, y3⟩ := y
    obtain ⟨⟨⟨h1, h2⟩, h3⟩, h4⟩ := h
    rw [avEq_sound h1, avEq_sound h2, h3, entEq_sound h4]
theorem objEq_sound {a b : AObj} (h : objEq a b = true) : a = b := by
  cases a <;> cases b <;> simp [objEq] at h
  · obtain ⟨⟨⟨⟨h1, h2⟩, h3⟩, h4⟩, h5⟩ := h
    rw [avEqL_sound h1, h2, h3, h4, h5]
  · rw [entEq_sound h.1, h.2]
  · obtain ⟨⟨⟨h1, h2⟩, h3⟩, h4⟩ := h
    rw [h1, h2, h3, h4]

theorem sameAt_spec {t : T AV} {d : Option Tmp} {v : AV} (h : sameAt t d v = true) : ∀ x, d = some x → t.get x = some v := by
  intro x hx; subst hx
  simp only [sameAt] at h
  split at h
  · rename_i w hw; rw [hw, avEq_sound h]
  · cases h
theorem inMk_spec {i b : Nat} : ∀ {mk : List (Nat × Nat)}, inMk i b mk = true → (i, b) ∈ mk
  | [], h => by simp [inMk] at h
  | p :: l, h => by
    simp only [inMk] at h
    split at h
    · rename_i q
      simp only [Bool.and_eq_true, beq_iff] at q
      obtain ⟨p1, p2⟩ := p
      simp only at q
      rw [← q.1, ← q.2]; exact List.mem_cons_self ..
    · exact List.mem_cons_of_mem _ (inMk_spec h)
theorem sameMade_spec {t : T AV} {i : Nat} {mk : List (Nat × Nat)} {d : Option Tmp} {h : Heap} {x : AObj} {k : Nat → AV} (e : sameMade t i mk d h x k = true) :
    ∃ y b, d = some y ∧ t.get y = some (k b) ∧ h.get b = some x ∧ (i, b) ∈ mk := by
  unfold sameMade at e
  split at e
  · rename_i y
    split at e
    · rename_i w hw
      split at e
      · rename_i b hb
        split at e
        · rename_i z hz
          simp only [Bool.and_eq_true] at e
          obtain ⟨⟨e1, e2⟩, e3⟩ := e
          exact ⟨y, b, rfl, by rw [hw, avEq_sound e2], by rw [hz, ← objEq_sound e3], inMk_spec e1⟩
        · cases e
      · cases e
    · cases e
  · cases e

/-! ### What a slot's operation reads -/
section
variable {E : Env} {G : Nat} {L : Lay} {lo hi : Nat} {ops : Array Oper} {mk : List (Nat × Nat)} {did todo : List PO} {t : T AV} {tmps : Array Value}

theorem mem_tmpsOf {o : Oper} {d : Tmp} (h : Operand.tmp d ∈ o.op.operands) : d ∈ tmpsOf o := by
  unfold tmpsOf
  exact List.mem_filterMap.2 ⟨.tmp d, by simpa using h, rfl⟩

/-- the operands of the operation that is next -/
theorem DrawR.reads {i : Nat} {ys : List Nat} (d : DrawR L lo hi ops mk did todo (i :: ys) t tmps) (hg : Glob G L) {o : Oper} (ho : ops[i]? = some o) : ∀ x ∈ o.op.operands, VR L (aev G t x) (evalOf tmps x) := by
  intro x hx
  refine aev_sound hg fun s hs a ha => ?_
  subst hs
  have hm := mem_tmpsOf hx
  refine (d.slots s a ha).2 fun j hj o' ho' hq hd => ?_
  rcases Nat.lt_trichotomy i j with q | q | q
  · have := d.reg.over i j o o' s q ho ho' hd hm
    rw [hq] at this; cases this
  · subst q; rw [ho] at ho'; injection ho' with ho'; subst ho'
    have := d.reg.own i o s ho hd hm
    rw [hq] at this; cases this
  · exact d.topo.1 j (d.reg.reads j i o' o s q ho' ho hd hm) hj

/-- is it wanted? -/
theorem DrawR.wanted {i : Nat} {ys : List Nat} (d : DrawR L lo hi ops mk did todo (i :: ys) t tmps) {o : Oper} (ho : ops[i]? = some o) {b : Bool} (hb : awanted ops t o = some b) : Region.wanted o (yielded ops tmps) = b := by
  unfold awanted at hb
  unfold Region.wanted
  cases hgd : o.guard with
  | none => rw [hgd] at hb; simpa using hb
  | some gw =>
    obtain ⟨g, want⟩ := gw
    rw [hgd] at hb
    simp only at hb ⊢
    obtain ⟨k1, o', s, k2, k3⟩ := d.reg.guard i o g want ho hgd
    have hbind : (ops[g]?).bind (·.dst) = some s := by rw [k2]; exact k3
    rw [hbind] at hb
    simp only at hb
    have hgr : g ∉ i :: ys := d.topo.1 g k1
    have hok : okSlot ops (i :: ys) s := by
      intro j hj oj hoj _ hd
      rcases Nat.lt_trichotomy g j with q | q | q
      · exact d.reg.dst g j o' oj s q k2 hoj k3 hd
      · subst q; exact hgr hj
      · exact d.reg.dst j g oj o' s q hoj k2 hd k3
    split at hb
    · rename_i bb hbb
      injection hb with hb
      obtain ⟨h1, h2⟩ := d.slots s _ hbb
      have h3 : tmps.getD s undef = .bool bb := h2 hok
      have h4 : tmps[s]? = some (.bool bb) := by
        rw [Array.getElem?_eq_getElem h1]
        simp [h1] at h3
        rw [h3]
      have : yielded ops tmps g = some bb := by unfold yielded; rw [hbind]; simp [h4]
      rw [this, ← hb]
      cases bb <;> cases want <;> rfl
    · rename_i l hbb
      injection hb with hb
      obtain ⟨h1, h2⟩ := d.slots s _ hbb
      obtain ⟨cs, h3, _⟩ := h2 hok
      have h4 : tmps[s]? = some (.tuple cs) := by
        rw [Array.getElem?_eq_getElem h1]
        simp [h1] at h3
        rw [h3]
      have : yielded ops tmps g = none := by unfold yielded; rw [hbind]; simp [h4]
      rw [this, ← hb]
      rfl
    · cases hb

theorem mk_apart {mk : List (Nat × Nat)} (h : mk.Pairwise (fun p q => p.2 ≠ q.2)) : ∀ p ∈ mk, ∀ q ∈ mk, p ≠ q → p.2 ≠ q.2 := by
  induction h with
  | nil => intro p hp; cases hp
  | cons h1 _ ih =>
    intro p hp q hq hne
    rcases List.mem_cons.1 hp with hp | hp <;> rcases List.mem_cons.1 hq with hq | hq
    · exact absurd (hp.trans hq.symm) hne
    · rw [hp]; exact h1 q hq
    · rw [hq]; exact fun e => h1 p hp e.symm
    · exact ih p hp q hq hne

/-- a quiet operation is done -/
theorem DrawR.did_quiet {i : Nat} {ys : List Nat} (d : DrawR L lo hi ops mk did todo (i :: ys) t tmps) {o : Oper} (ho : ops[i]? = some o) (hq : AX.loud o.op = false) {M : Lay} (hle : L.le M) {val : Value}
    (hslot : ∀ s, o.dst = some s → ∀ a, t.get s = some a → VR M a val) (hmk : ∀ p ∈ mk, p.1 ∈ ys → M p.2 = none) :
    DrawR M lo hi ops mk did todo ys t (setDst tmps o.dst val) := by
  obtain ⟨t1, t2⟩ := d.topo
  obtain ⟨n1, n2⟩ := List.nodup_cons.1 d.nodup
  refine ⟨d.reg, d.loud, t2, n2, fun j hj => d.inb j (List.mem_cons_of_mem _ hj), fun x hx q => d.didD x hx (List.mem_cons_of_mem _ q), fun x hx => ?_, fun j hj hnj k hk => ?_, fun s a ha => ?_, fun p hp => ?_, d.apart⟩
  · have h1 := d.todoD x hx
    obtain ⟨g1, g2⟩ := d.todo_mem hx
    obtain ⟨xi, xo, g3, rfl⟩ := mem_all.1 g1
    simp only [poAt] at h1 g2 ⊢
    rcases List.mem_cons.1 h1 with q | q
    · subst q; rw [ho] at g3; injection g3 with g3; subst g3; rw [hq] at g2; cases g2
    · exact q
  · by_cases q : j = i
    · subst q; exact fun z => t1 k hk (List.mem_cons_of_mem _ z)
    · exact fun z => d.shut j hj (by simp [q, hnj]) k hk (List.mem_cons_of_mem _ z)
  · obtain ⟨h1, h2⟩ := d.slots s a ha
    refine ⟨by rw [setDst_size]; exact h1, fun hok => ?_⟩
    by_cases q : o.dst = some s
    · rw [q, setDst_getD, if_pos ⟨rfl, h1⟩]
      exact hslot s q a ha
    · have h3 : VR L a (tmps.getD s undef) := by
        refine h2 fun j hj o' ho' hq' => ?_
        rcases List.mem_cons.1 hj with rfl | hj
        · rw [ho] at ho'; injection ho' with ho'; subst ho'; exact q
        · exact hok j hj o' ho' hq'
      cases hd : o.dst with
      | none => exact h3.mono hle
      | some s' =>
        rw [setDst_getD, if_neg (fun z => q (by rw [hd, z.1]))]
        exact h3.mono hle
  · obtain ⟨h1, h2, h3⟩ := d.made p hp
    exact ⟨h1, h2, fun q => hmk p hp q⟩
end

/-! ### The quiet operations of a phase -/
def SameQ (E : Env) (G : Nat) (ops : Array Oper) (t : T AV) (h : Heap) (mk : List (Nat × Nat)) (i : Nat) (o : Oper) : Prop :=
  (awanted ops t o = some false ∧ sameAt t o.dst (.tuple []) = true) ∨
  (awanted ops t o = some true ∧ ((∃ v, aquiet E (aev G t) o.op h = .val v ∧ sameAt t o.dst v = true) ∨ ∃ x k, aquiet E (aev G t) o.op h = .make x k ∧ sameMade t i mk o.dst h x k = true))

theorem quietSame_spec {E : Env} {G : Nat} {ops : Array Oper} {t : T AV} {h : Heap} {mk : List (Nat × Nat)} : ∀ {l : List (Nat × Bool)}, quietSame E G ops t h mk l = true → ∀ p ∈ l, ∃ o, ops[p.1]? = some o ∧ SameQ E G ops t h mk p.1 o
  | [], _, _, hp => by cases hp
  | q :: l, e, p, hp => by
    unfold quietSame at e
    split at e
    · cases e
    · rename_i o ho
      have go : SameQ E G ops t h mk q.1 o ∧ quietSame E G ops t h mk l = true := by
        split at e
        · cases e
        · rename_i hw
          simp only [Bool.and_eq_true] at e
          exact ⟨.inl ⟨hw, e.1⟩, e.2⟩
        · rename_i hw
          split at e
          · rename_i v hv
            simp only [Bool.and_eq_true] at e
            exact ⟨.inr ⟨hw, .inl ⟨v, hv, e.1⟩⟩, e.2⟩
          · rename_i x k hx
            simp only [Bool.and_eq_true] at e
            exact ⟨.inr ⟨hw, .inr ⟨x, k, hx, e.1⟩⟩, e.2⟩
          · cases e
      rcases List.mem_cons.1 hp with rfl | hp
      · exact ⟨o, ho, go.1⟩
      · exact quietSame_spec go.2 p hp

theorem mem_quietsAt {all did todo : List PO} {a : PO} (ha : a ∈ all) (hr : ready did todo a = true) : ∃ fl, (a.i, fl) ∈ quietsAt all did todo := by
  unfold quietsAt
  cases did <;> exact ⟨_, List.mem_filterMap.2 ⟨a, ha, by rw [hr]⟩⟩
section
variable {P : Program} {E : Env} (H : EnvOk P E) {G B : Nat} {w0 : World}
include H

theorem quiet_steps {ops : Array Oper} {mk : List (Nat × Nat)} {did todo : List PO} {t : T AV} {h : Heap} {nx lo : Nat} {gs : List Frame} {xs : List Item} (hsame : quietSame E G ops t h mk (quietsAt (allOf ops) did todo) = true) :
    ∀ (rest : List Nat) (L : Lay) (w : World) (f : Frame), f.mode = .run → f.todo = .inRegion ops rest :: xs → DrawR L lo nx ops mk did todo rest t f.tmps → St B w0 E L h nx w → Glob G L →
    ∃ rest' M w' tmps', Steps P (lone f gs w) (lone { f with tmps := tmps', todo := .inRegion ops rest' :: xs } gs w') ∧ DrawR M lo nx ops mk did todo rest' t tmps' ∧ St B w0 E M h nx w' ∧ L.le M ∧ (∀ b, b < lo → M b = L b) ∧
      tmps'.size = f.tmps.size ∧ ((rest' = [] ∧ todo = []) ∨ ∃ l todo' r, todo = l :: todo' ∧ rest' = l.i :: r) := by
  intro rest
  induction rest with
  | nil =>
    intro L w f hm ht d s hg
    refine ⟨[], L, w, f.tmps, ?_, d, s, Lay.le_refl L, fun _ _ => rfl, rfl, .inl ⟨rfl, ?_⟩⟩
    · have : ({ f with tmps := f.tmps, todo := .inRegion ops [] :: xs } : Frame) = f := by cases f; simp only at ht; subst ht; rfl
      rw [this]; exact Steps.refl ..
    · cases todo with
      | nil => rfl
      | cons l todo => have := d.todoD l (List.mem_cons_self ..); cases this
  | cons i ys ih =>
    intro L w f hm ht d s hg
    have hi := d.inb i (List.mem_cons_self ..)
    obtain ⟨o, ho⟩ : ∃ o, ops[i]? = some o := ⟨ops[i], by simp [hi]⟩
    have hall := mem_all.2 ⟨i, o, ho, rfl⟩
    cases hq : loud o.op with
    | true =>
      have hmem : poAt ops i o ∈ (allOf ops).filter (·.lo) := List.mem_filter.2 ⟨hall, hq⟩
      rw [d.loud] at hmem
      have hmem2 : poAt ops i o ∈ todo := by
        rcases List.mem_append.1 hmem with q | q
        · exact absurd (List.mem_cons_self ..) (d.didD _ (List.mem_reverse.1 q))
        · exact q
      refine ⟨i :: ys, L, w, f.tmps, ?_, d, s, Lay.le_refl L, fun _ _ => rfl, rfl, .inr ?_⟩
      · have : ({ f with tmps := f.tmps, todo := .inRegion ops (i :: ys) :: xs } : Frame) = f := by cases f; simp only at ht; subst ht; rfl
        rw [this]; exact Steps.refl ..
      · cases todo with
        | nil => cases hmem2
        | cons l todo =>
          refine ⟨l, todo, ys, rfl, ?_⟩
          rcases List.mem_cons.1 hmem2 with q | q
          · rw [← q]; rfl
          · exfalso
            have h1 := (List.pairwise_cons.1 d.todo_rising).1 _ q
            obtain ⟨g1, g2⟩ := d.todo_mem (List.mem_cons_self ..)
            obtain ⟨li, lo', g3, rfl⟩ := mem_all.1 g1
            simp only [poAt] at h1 g2
            have hm2 := d.reg.row li i lo' o h1 g3 ho g2 hq
            exact d.topo.1 li hm2 (d.todoD _ (List.mem_cons_self ..))
    | false =>
      -- it is among those of the phase
      have hready : ready did todo (poAt ops i o) = true := by
        unfold ready
        simp only [Bool.and_eq_true, List.all_eq_true, Bool.not_eq_true']
        refine ⟨⟨hq, fun l hl => ?_⟩, fun l hl => ?_⟩
        · have h1 := d.todoD l hl
          cases hz : (poAt ops i o).pre.testBit l.i with
          | false => rfl
          | true => exact absurd h1 (d.topo.1 l.i hz)
        · obtain ⟨g1, g2⟩ := d.did_mem hl
          obtain ⟨li, lo', g3, rfl⟩ := mem_all.1 g1
          have hlt := (Array.getElem?_eq_some_iff.1 g3).1
          cases hz : (poAt ops li lo').pre.testBit (poAt ops i o).i with
          | false => rfl
          | true => exact absurd (List.mem_cons_self ..) (d.shut li hlt (d.didD _ hl) i hz)
      have hin := mem_quietsAt hall hready
      obtain ⟨fl, hin⟩ := hin
      obtain ⟨o', ho', hsq⟩ := quietSame_spec hsame _ hin
      change ops[i]? = some o' at ho'
      change SameQ E G ops t h mk i o' at hsq
      rw [ho] at ho'; injection ho' with ho'; subst ho'
      have hnd : ∀ c, o.op ≠ .defer c := by intro c e; rw [e] at hq; cases hq
      have hfin : ∀ v, f.finish v = { f with tmps := setDst f.tmps o.dst v, todo := .inRegion ops ys :: xs } := by
        intro v; rw [Frame.finish_region f ht, ho]; rfl
      have n1 := (List.nodup_cons.1 d.nodup).1
      -- how it goes on
      have go : ∀ (M : Lay) (w1 : World) (val : Value), step P (lone f gs w) = .next (lone (f.finish val) gs w1) → St B w0 E M h nx w1 → L.le M → (∀ b, b < lo → M b = L b) →
          DrawR M lo nx ops mk did todo ys t (setDst f.tmps o.dst val) → ∃ rest' M' w' tmps', Steps P (lone f gs w) (lone { f with tmps := tmps', todo := .inRegion ops rest' :: xs } gs w') ∧ DrawR M' lo nx ops mk did todo rest' t tmps' ∧ St B w0 E M' h nx w' ∧ L.le M' ∧ (∀ b, b < lo → M' b = L b) ∧
            tmps'.size = f.tmps.size ∧ ((rest' = [] ∧ todo = []) ∨ ∃ l todo' r, todo = l :: todo' ∧ rest' = l.i :: r) := by
        intro M w1 val hs s1 hle hlo d1
        rw [hfin] at hs
        obtain ⟨rest', M', w', tmps', k1, k2, k3, k4, k5, k6, k7⟩ := ih M w1 { f with tmps := setDst f.tmps o.dst val, todo := .inRegion ops ys :: xs } hm rfl d1 s1 (hg.mono hle)
        exact ⟨rest', M', w', tmps', .head hs k1, k2, k3, Lay.le_trans hle k4, fun b hb => (k5 b hb).trans (hlo b hb), by rw [k6]; exact setDst_size .., k7⟩
      rcases hsq with ⟨hw, hat⟩ | ⟨hw, ⟨v, hv, hat⟩ | ⟨x, k, hx, hmd⟩⟩
      · have hwant := d.wanted ho hw
        refine go L w undef (step_skip_of hm ht (by simp [ho, hwant])) s (Lay.le_refl L) (fun _ _ => rfl) (d.did_quiet ho hq (Lay.le_refl L) (fun y hy a ha => ?_) (fun p hp q => (d.made p hp).2.2 (List.mem_cons_of_mem _ q)))
        have := sameAt_spec hat y hy
        rw [this] at ha; injection ha with ha; subst ha; exact VR.unit
      · have hwant := d.wanted ho hw
        obtain ⟨val, h1, h2⟩ := aquiet_val H s.m hv (d.reads hg ho)
        rw [← Frame.eval_of] at h1
        have hst := step_value_of (P := P) (stepG_op_of (gs := gs) hm ht ho hwant (.inr hnd)) h1 (.inl rfl)
        refine go L w val hst s (Lay.le_refl L) (fun _ _ => rfl) (d.did_quiet ho hq (Lay.le_refl L) (fun y hy a ha => ?_) (fun p hp q => (d.made p hp).2.2 (List.mem_cons_of_mem _ q)))
        have := sameAt_spec hat y hy
        rw [this] at ha; injection ha with ha; subst ha; exact h2
      · have hwant := d.wanted ho hw
        obtain ⟨n, obj, sz, val, h1, h2⟩ := aquiet_make H s.m hx (d.reads hg ho)
        rw [← Frame.eval_of] at h1
        have hst := step_value_of (P := P) (stepG_op_of (gs := gs) hm ht ho hwant (.inr hnd)) h1 (.inl rfl)
        obtain ⟨y, b, hy, hty, hb, hmem⟩ := sameMade_spec hmd
        obtain ⟨g1, g2, g3⟩ := d.made _ hmem
        have hLb : L b = none := g3 (List.mem_cons_self ..)
        obtain ⟨q1, q2⟩ := h2 (L.put b ⟨w.heap.size, 0, sz⟩) b (Lay.le_put L _ hLb) (Lay.put_same ..)
        have hm1 : MR B w0 (L.put b ⟨w.heap.size, 0, sz⟩) (h.set b x) (w.alloc obj) := s.m.alloc hLb rfl q1
        have hm2 : MR B w0 (L.put b ⟨w.heap.size, 0, sz⟩) h (w.alloc obj) := hm1.ext fun b' o' _ hb' => by
          rw [T.get_set]
          split
          · rename_i q; subst q; rw [hb] at hb'; exact hb'
          · exact hb'
        refine go _ _ val hst ⟨hm2.drewN n, fun b' hb' => ?_, s.fl⟩ (Lay.le_put L _ hLb) (fun b' hb' => ?_) (d.did_quiet ho hq (Lay.le_put L _ hLb) (fun z hz a ha => ?_) (fun p hp q => ?_))
        · rw [Lay.put_other _ _ (by simp only at g2; omega)]; exact s.fresh b' hb'
        · rw [Lay.put_other _ _ (by simp only at g1; omega)]
        · rw [hy] at hz; injection hz with hz; subst hz
          rw [hty] at ha; injection ha with ha; subst ha; exact q2
        · have hne : p ≠ (i, b) := by rintro rfl; exact n1 q
          rw [Lay.put_other _ _ (mk_apart d.apart p hp _ hmem hne)]
          exact (d.made p hp).2.2 (List.mem_cons_of_mem _ q)
end

/-! ### What comes to be ready -/
theorem TRx.over {L : Lay} {ok : Nat → Prop} {t : T AV} {tmps : Array Value} (h : TRx L ok t tmps) {dst : Option Tmp} (hok : ∀ d, dst = some d → ¬ ok d) (v : AV) : TRx L ok (tput tmps.size t dst v) tmps := by
  intro i a e
  cases dst with
  | none => exact h i a e
  | some d =>
    simp only [tput] at e
    split at e
    · rename_i hd
      have hd' := blt_iff.1 hd
      rw [T.get_set] at e
      split at e
      · rename_i q; subst q
        exact ⟨hd', fun z => absurd z (hok i rfl)⟩
      · exact h i a e
    · exact h i a e

section
variable {E : Env} {G B : Nat} {w0 : World} {L : Lay} {lo : Nat} {ops : Array Oper} {did todo : List PO} {rest : List Nat} {tmps : Array Value} {w : World}
theorem quietNew_sound : ∀ {l : List (Nat × Bool)} {t t' : T AV} {h h' : Heap} {nx nx' : Nat} {mk mk' : List (Nat × Nat)}, quietNew E G tmps.size ops l t h nx mk = some (t', h', nx', mk') →
    (∀ p ∈ l, p.2 = true → p.1 ∈ rest ∧ ∀ o, ops[p.1]? = some o → loud o.op = false) → lo ≤ nx → DrawR L lo nx ops mk did todo rest t tmps → St B w0 E L h nx w →
    DrawR L lo nx' ops mk' did todo rest t' tmps ∧ St B w0 E L h' nx' w ∧ nx ≤ nx' ∧ ∀ b, b < E.floor → h'.get b = h.get b
  | [], t, t', h, h', nx, nx', mk, mk', e, _, _, d, s => by
    simp only [quietNew, Option.some.injEq, Prod.mk.injEq] at e
    obtain ⟨rfl, rfl, rfl, rfl⟩ := e
    exact ⟨d, s, Nat.le_refl _, fun _ _ => rfl⟩
  | p :: l, t, t', h, h', nx, nx', mk, mk', e, hl, hlo, d, s => by
    have hl' : ∀ q ∈ l, q.2 = true → q.1 ∈ rest ∧ ∀ o, ops[q.1]? = some o → loud o.op = false := fun q hq => hl q (List.mem_cons_of_mem _ hq)
    unfold quietNew at e
    split at e
    · exact quietNew_sound e hl' hlo d s
    · rename_i hp
      obtain ⟨hr, hqt⟩ := hl p (List.mem_cons_self ..) hp
      split at e
      · cases e
      · rename_i o ho
        have hq := hqt o ho
        have slot : ∀ v, DrawR L lo nx ops mk did todo rest (tput tmps.size t o.dst v) tmps := fun v =>
          ⟨d.reg, d.loud, d.topo, d.nodup, d.inb, d.didD, d.todoD, d.shut, d.slots.over (fun y hy hok => hok p.1 hr o ho hq hy) v, d.made, d.apart⟩
        split at e
        · cases e
        · exact quietNew_sound e hl' hlo (slot _) s
        · split at e
          · rename_i r hset
            unfold setFresh at hset
            split at hset
            · injection hset with hset; subst hset
              exact quietNew_sound e hl' hlo (slot _) s
            · rename_i x k _
              split at hset
              · rename_i y hy
                injection hset with hset; subst hset
                have hfr := s.fresh nx (Nat.le_refl _)
                have d1 : DrawR L lo (nx + 1) ops ((p.1, nx) :: mk) did todo rest (tput tmps.size t o.dst (k nx)) tmps := by
                  have d0 := slot (k nx)
                  refine ⟨d0.reg, d0.loud, d0.topo, d0.nodup, d0.inb, d0.didD, d0.todoD, d0.shut, d0.slots, fun q hq' => ?_, List.pairwise_cons.2 ⟨fun q hq' => ?_, d0.apart⟩⟩
                  · rcases List.mem_cons.1 hq' with rfl | hq'
                    · exact ⟨hlo, by omega, fun _ => hfr⟩
                    · obtain ⟨g1, g2, g3⟩ := d0.made q hq'
                      exact ⟨g1, by omega, g3⟩
                  · obtain ⟨g1, g2, g3⟩ := d0.made q hq'
                    show nx ≠ q.2
                    omega
                have s1 : St B w0 E L (h.set nx x) (nx + 1) w := ⟨s.m.unlaid hfr x, fun b hb => s.fresh b (by omega), by have := s.fl; omega⟩
                rw [hy] at d1
                obtain ⟨k1, k2, k3, k4⟩ := quietNew_sound e hl' (show lo ≤ nx + 1 by omega) (by rw [hy]; exact d1) s1
                have k3' : nx + 1 ≤ nx' := k3
                refine ⟨k1, k2, by omega, fun b hb => ?_⟩
                rw [k4 b hb]
                show (h.set nx x).get b = _
                rw [T.get_set, if_neg (by have := s.fl; omega)]
              · cases hset
            · cases hset
          · cases e
end
end Go.AX

namespace Go.AX
open Go Go.RowKit

/-- a run's beginning -/
structure Cx where
  G : Nat
  B : Nat
  w0 : World
  L0 : Lay
  h0 : Heap
  base : Nat
  cs0 : List Frame
  fn : FuncId

structure Since (E : Env) (X : Cx) (L : Lay) (h : Heap) : Prop where
  le : X.L0.le L
  old : ∀ b, b < X.base → L b = X.L0 b
  kept : ∀ b, b < E.floor → h.get b = X.h0.get b

def lastIs (f : FuncId) : List AFrame → Prop
  | [] => False
  | a :: l => match l with
    | [] => a.fn = f ∧ a.deferred = false
    | _ :: _ => lastIs f l

structure SR (E : Env) (X : Cx) (L : Lay) (S : AState) (fs : List Frame) (w : World) : Prop where
  st : St X.B X.w0 E L S.h S.nx w
  glob : Glob X.G L
  stack : StackR L X.base X.cs0 S.fs fs S.nx
  since : Since E X L S.h
  last : lastIs X.fn S.fs

/-- what a step comes to -/
def Goes (P : Program) (E : Env) (X : Cx) (m : Machine) (S : AState) : Prop := ∃ L f gs w, Steps P m (lone f gs w) ∧ SR E X L S (f :: gs) w
def Aft (P : Program) (E : Env) (X : Cx) (m : Machine) : Stp → Prop
  | .next S => Goes P E X m S
  | .done v h nx => ∃ L f w val, Steps P m (lone f X.cs0 w) ∧ f.fn = X.fn ∧ f.leaving P w (.returned val) ∧ VR L v val ∧ St X.B X.w0 E L h nx w ∧ Glob X.G L ∧ Since E X L h ∧ X.base ≤ nx
  | .fork l => ∃ S ∈ l, Goes P E X m S
  | .iso f args S => ∃ L g gs w vs, Steps P m (lone (Frame.enter P f vs .normal) (g :: gs) w) ∧ VRL L args vs.toList ∧ SR E X L S (g :: gs) w
  | .bad _ => True

section
variable {P : Program} {E : Env} {X : Cx}

theorem Goes.of_steps {m m' : Machine} {S : AState} (h : Steps P m m') (g : Goes P E X m' S) : Goes P E X m S :=
  let ⟨L, f, gs, w, k, r⟩ := g; ⟨L, f, gs, w, h.trans k, r⟩
theorem Aft.of_steps {m m' : Machine} (h : Steps P m m') : ∀ {s : Stp}, Aft P E X m' s → Aft P E X m s
  | .next _, g => Goes.of_steps h g
  | .done .., ⟨L, f, w, val, k, r⟩ => ⟨L, f, w, val, h.trans k, r⟩
  | .fork _, ⟨S, hS, g⟩ => ⟨S, hS, Goes.of_steps h g⟩
  | .iso .., ⟨L, g, gs, w, vs, k, r⟩ => ⟨L, g, gs, w, vs, h.trans k, r⟩
  | .bad _, _ => trivial

theorem lastIs.set {f : FuncId} {a a' : AFrame} {l : List AFrame} (h : lastIs f (a :: l)) (h1 : a'.fn = a.fn) (h2 : a'.deferred = a.deferred) : lastIs f (a' :: l) := by
  cases l with
  | nil => exact ⟨h1.trans h.1, h2.trans h.2⟩
  | cons b l => exact h
theorem lastIs.push {f : FuncId} {a b : AFrame} {l : List AFrame} (h : lastIs f (b :: l)) : lastIs f (a :: b :: l) := h
theorem lastIs.pop {f : FuncId} {a b : AFrame} {l : List AFrame} (h : lastIs f (a :: b :: l)) : lastIs f (b :: l) := h
theorem finish_same {a a' : AFrame} {v : AV} (e : a.finish v = some a') : a'.fn = a.fn ∧ a'.deferred = a.deferred ∧ a'.mode = a.mode ∧ a'.round = a.round := by
  unfold AFrame.finish at e
  split at e
  split at e <;> first | (injection e with e; subst e; exact ⟨rfl, rfl, rfl, rfl⟩) | cases e

/-- memory grows under a stack -/
theorem SR.grow {L M : Lay} {fs : List AFrame} {h h' : Heap} {nx nx' : Nat} {gs : List Frame} {w w' : World} (r : SR E X L ⟨fs, h, nx⟩ gs w) (s : St X.B X.w0 E M h' nx' w') (g : Grow E L h nx M h' nx') : SR E X M ⟨fs, h', nx'⟩ gs w' := by
  have hb : X.base ≤ nx := r.stack.base
  refine ⟨s, r.glob.mono g.le, r.stack.mono g.le g.old g.nle, ⟨Lay.le_trans r.since.le g.le, fun b hb' => ?_, fun b hb' => ?_⟩, r.last⟩
  · rw [g.old b (by omega)]; exact r.since.old b hb'
  · rw [g.kept b hb']; exact r.since.kept b hb'

/-- the top frame turns -/
theorem SR.top {L : Lay} {a a' : AFrame} {l : List AFrame} {h : Heap} {nx : Nat} {f : Frame} {gs : List Frame} {w : World} (r : SR E X L ⟨a :: l, h, nx⟩ (f :: gs) w) : ∃ lo, lo ≤ nx ∧ FrameR L lo nx a f ∧ StackR L X.base X.cs0 l gs lo ∧
    (∀ {f' : Frame}, FrameR L lo nx a' f' → a'.fn = a.fn → a'.deferred = a.deferred → SR E X L ⟨a' :: l, h, nx⟩ (f' :: gs) w) := by
  obtain ⟨f0, gs0, lo, e, h1, h2, h3⟩ := r.stack
  injection e with e1 e2; subst e1; subst e2
  exact ⟨lo, h1, h2, h3, fun hf h4 h5 => ⟨r.st, r.glob, ⟨_, _, lo, rfl, h1, hf, h3⟩, r.since, r.last.set h4 h5⟩⟩

theorem fnext_sound {L : Lay} {a : AFrame} {l : List AFrame} {h : Heap} {nx : Nat} {f : Frame} {gs : List Frame} {w : World} (r : SR E X L ⟨a :: l, h, nx⟩ (f :: gs) w) (hrun : a.mode = .run) {v : AV} {val : Value} (hv : VR L v val) {m : Machine} (hs : Steps P m (lone (f.finish val) gs w)) :
    Aft P E X m (fnext (a.finish v) l h nx) := by
  unfold fnext
  split
  · rename_i a' e
    obtain ⟨lo, h1, h2, h3, h4⟩ := r.top (a' := a')
    obtain ⟨q1, q2, _⟩ := finish_same e
    exact ⟨L, _, gs, w, hs, h4 (finish_sound h2 hrun e hv) q1 q2⟩
  · trivial

/-! ### A call is entered -/
theorem enterTmps_get : ∀ (as : List AV) (k : Nat) (t : T AV) (i : Nat), (enterTmps as k t).get i = if k ≤ i ∧ i < k + as.length then as[i - k]? else t.get i
  | [], k, t, i => by simp [enterTmps]; omega
  | a :: as, k, t, i => by
    rw [enterTmps, enterTmps_get as (k + 1), T.get_set]
    by_cases h1 : i = k
    · subst h1
      rw [if_neg (by omega), if_pos rfl, if_pos (by simp)]
      simp
    · by_cases h2 : k + 1 ≤ i ∧ i < k + 1 + as.length
      · rw [if_pos h2, if_pos (by simp; omega)]
        have : i - k = (i - (k + 1)) + 1 := by omega
        rw [this]; simp
      · rw [if_neg h2, if_neg h1, if_neg (by simp; omega)]
theorem VRL.getV {L : Lay} : ∀ {as : List AV} {vs : List Value}, VRL L as vs → ∀ {n : Nat} {a : AV}, as[n]? = some a → ∃ v, vs[n]? = some v ∧ VR L a v
  | [], _, _, n, _, e => by simp at e
  | a :: as, _, ⟨v, vs, e1, h1, h2⟩, n, b, e => by
    subst e1
    cases n with
    | zero => simp at e; subst e; exact ⟨v, rfl, h1⟩
    | succ n => simp only [List.getElem?_cons_succ] at e ⊢; exact VRL.getV h2 e

theorem enter_sound (H : EnvOk P E) {L : Lay} {g : FuncId} {as : List AV} {df : Bool} {c : AFrame} (e : aenter E g as df = some c) {vs : Array Value} (hv : VRL L as vs.toList) (n : Nat) : FrameR L n n c (Frame.enter P g vs (kindOf df)) ∧ c.fn = g ∧ c.deferred = df := by
  unfold aenter at e
  split at e
  · rename_i fi hfi
    split at e
    · rename_i hext
      split at e
      · rename_i hle
        injection e with e; subst e
        obtain ⟨fn, h1, h2, h3⟩ := (H.fn g fi hfi).ok
        rw [hext] at h3
        obtain ⟨h4, h5, h6⟩ := h3
        have hle' := ble_iff.1 hle
        have hl := hv.length
        have hsz : vs.size = as.length := by rw [hl]; simp
        refine ⟨⟨rfl, ?_, fun _ => .inl ⟨?_, ?_⟩, fun q => (by cases q), rfl, rfl, rfl, rfl⟩, rfl, rfl⟩
        · simp [Frame.enter, h1, h5]; omega
        · refine ⟨_, _, rfl, ?_, rfl⟩
          simp [IR, h1, h4]
        · intro i a hi
          simp only [Frame.enter, h1, Option.map_some, Option.getD_some, h5]
          rw [enterTmps_get] at hi
          simp only [Nat.zero_le, true_and, Nat.zero_add, Nat.sub_zero, T.get_leaf] at hi
          split at hi
          · rename_i hlt
            obtain ⟨v, k1, k2⟩ := hv.getV hi
            refine ⟨by simp; omega, fun _ => ?_⟩
            have : (vs ++ Array.replicate (fi.ntmps - vs.size) undef).getD i undef = v := by
              have k3 : vs[i]? = some v := by simpa using k1
              have hlt2 : i < vs.size := by omega
              rw [Array.getD_eq_getD_getElem?, Array.getElem?_append_left hlt2, k3]; rfl
            rw [this]; exact k2
          · cases hi
      · cases e
    · cases e
  · cases e

theorem push_sound {L : Lay} {l : List AFrame} {h : Heap} {nx : Nat} {f : Frame} {gs : List Frame} {w : World} {a : AFrame} (r : SR E X L ⟨a :: l, h, nx⟩ (f :: gs) w) {c : AFrame} {f' : Frame} (hf : FrameR L nx nx c f') : SR E X L ⟨c :: a :: l, h, nx⟩ (f' :: f :: gs) w :=
  ⟨r.st, r.glob, ⟨_, _, nx, rfl, Nat.le_refl _, hf, r.stack⟩, r.since, r.last⟩

theorem doEnter_sound (H : EnvOk P E) {L : Lay} {a : AFrame} {l : List AFrame} {h : Heap} {nx : Nat} {f : Frame} {gs : List Frame} {w : World} (r : SR E X L ⟨a :: l, h, nx⟩ (f :: gs) w) {g : FuncId} {as : List AV} {vs : Array Value} (hv : VRL L as vs.toList)
    {m : Machine} (hs : Steps P m (lone (Frame.enter P g vs .normal) (f :: gs) w)) : Aft P E X m (doEnter E g as a l h nx) := by
  unfold doEnter
  split
  · exact ⟨L, f, gs, w, vs, hs, hv, r⟩
  · split
    · rename_i c e
      exact ⟨L, _, _, w, hs, push_sound r (enter_sound H e hv nx).1⟩
    · trivial

theorem setParams_sound {L : Lay} : ∀ {ps : List Tmp} {vs : List AV} {sz : Nat} {t t' : T AV}, setParams ps vs sz t = some t' → ∀ {xs : List Value} {arr : Array Value}, VRL L vs xs → arr.size = sz → TR L t arr →
    ps.length = xs.length ∧ TR L t' ((ps.zip xs).foldl (fun tmps p => tmps.setIfInBounds p.1 p.2) arr) ∧ ((ps.zip xs).foldl (fun tmps p => tmps.setIfInBounds p.1 p.2) arr).size = sz
  | [], [], sz, t, t', e, xs, arr, hv, hs, ht => by
    simp only [setParams, Option.some.injEq] at e; subst e
    cases hv
    exact ⟨rfl, ht, hs⟩
  | [], _ :: _, _, _, _, e, _, _, _, _, _ => by simp [setParams] at e
  | _ :: _, [], _, _, _, e, _, _, _, _, _ => by simp [setParams] at e
  | p :: ps, v :: vs, sz, t, t', e, _, arr, ⟨x, xs, e1, h1, h2⟩, hs, ht => by
    subst e1
    simp only [setParams] at e
    subst hs
    have hput : TR L (tput arr.size t (some p) v) (arr.setIfInBounds p x) := TRx.put (dst := some p) ht (fun _ _ => .inr trivial) h1
    obtain ⟨k1, k2, k3⟩ := setParams_sound e h2 (by simp) hput
    exact ⟨by simp [k1], by simpa using k2, by simpa using k3⟩

theorem getLoop_run {w : World} {b : Nat} {l : Loop} (h : w.heap[b]? = some (.loop l)) : (Instr.getLoop b).run P w = .ok l w := by
  simp [Instr.getLoop, getObj, Sem.run, h]
theorem kind_normal {f : Frame} (h : Frame.plainTop f) : (match f.todo with | .call _ true _ _ :: _ => CallKind.wrapped | _ => .normal) = .normal := by
  split
  · rename_i d r s k e; exact absurd e (h d true r s k)
  · rfl

theorem doRound_sound {L : Lay} {a : AFrame} {l : List AFrame} {h : Heap} {nx : Nat} {f : Frame} {gs : List Frame} {w : World} (r : SR E X L ⟨a :: l, h, nx⟩ (f :: gs) w) (hrun : a.mode = .run) {b : Nat} {as : List AV} {vs : Array Value} {c : Loc} (hc : L b = some c) (hv : VRL L as vs.toList) {s : Sem Next}
    (hg : stepG P true { frame := f, callers := gs, status := .running, dying := none } w = stepG.apply P true f gs none s w) (hr : s.run P w = (Instr.yield c.blk vs).run P w) : Aft P E X (lone f gs w) (doRound b as a l h nx) := by
  unfold doRound
  split
  · rename_i st pend fn sz tmps params assign body db hb
    split
    · rename_i t ht
      obtain ⟨o', ho, arr, cd, hcd, hsz, htr, rfl⟩ := r.st.m.obj _ _ c hb hc
      obtain ⟨k1, k2, k3⟩ := setParams_sound ht hv hsz htr
      obtain ⟨lo, h1, h2, h3, _⟩ := r.top (a' := a)
      have hy : (Instr.yield c.blk vs).run P w = .ok (.round c.blk fn ((params.zip vs.toList).foldl (fun tmps p => tmps.setIfInBounds p.1 p.2) arr) assign body) w := by
        have hne : ¬ (vs.size ≠ params.toArray.size) := by simp; simpa using k1.symm
        unfold Instr.yield
        simp only [Sem.run_bind, getLoop_run ho, Result.andThen_ok, if_neg hne, Sem.run_pure]
        congr 2
        obtain ⟨vs⟩ := vs
        simp
      rw [hy] at hr
      have hst : step P (lone f gs w) = .next (lone (Frame.round c.blk fn ((params.zip vs.toList).foldl (fun tmps p => tmps.setIfInBounds p.1 p.2) arr) assign body .normal) (f :: gs) w) := by
        refine step_lone_go ?_
        rw [hg]
        have := kind_normal (h2.plain hrun).1
        simp [stepG.apply, hr]
      refine ⟨L, _, _, w, .one hst, push_sound r ⟨rfl, k3, fun _ => .inl ⟨⟨_, _, rfl, rfl, _, _, rfl, rfl, _, _, rfl, rfl, rfl⟩, k2⟩, fun q => (by cases q), rfl, rfl, rfl, ⟨c, hc, rfl⟩⟩⟩
    · trivial
  · trivial

theorem forkAll_mem {a : AFrame} {l : List AFrame} {nx : Nat} : ∀ {ps : List (AV × Heap)} {r : List AState}, forkAll a l nx ps = some r → ∀ p ∈ ps, ∃ a', a.finish p.1 = some a' ∧ ⟨a' :: l, p.2, nx⟩ ∈ r
  | [], _, _, _, hp => by cases hp
  | q :: ps, r, e, p, hp => by
    unfold forkAll at e
    split at e
    · rename_i a' r' e1 e2
      injection e with e; subst e
      rcases List.mem_cons.1 hp with rfl | hp
      · exact ⟨a', e1, List.mem_cons_self ..⟩
      · obtain ⟨a2, k1, k2⟩ := forkAll_mem e2 p hp
        exact ⟨a2, k1, List.mem_cons_of_mem _ k2⟩
    · cases e

theorem StackR.head {L : Lay} {base : Nat} {cs0 : List Frame} {a : AFrame} {l : List AFrame} {gs : List Frame} {hi : Nat} (r : StackR L base cs0 (a :: l) gs hi) : ∃ f gs', gs = f :: gs' ∧ f.mode = modeOf a.mode ∧ f.kind = kindOf a.deferred := by
  obtain ⟨f, gs', lo, e, _, h, _⟩ := r
  exact ⟨f, gs', e, h.mode, h.kind⟩
theorem tryRecover_none {f : Frame} {gs : List Frame} {d : Bool} (hk : f.kind = kindOf d) {c : Frame} {cs : List Frame} (hgs : gs = c :: cs) {md : AMode} (hm : c.mode = modeOf md) : tryRecover f gs = none := by
  subst hgs
  cases d with
  | false => simp [tryRecover, hk, kindOf]
  | true => cases md <;> simp [tryRecover, hk, kindOf, hm, modeOf]

/-- what becomes of an operation's result -/
theorem apply_sound (H : EnvOk P E) {L : Lay} {a : AFrame} {l : List AFrame} {h : Heap} {nx : Nat} {f : Frame} {gs : List Frame} {w : World} (r : SR E X L ⟨a :: l, h, nx⟩ (f :: gs) w) (hrun : a.mode = .run) {s : Sem Next}
    (hg : stepG P true { frame := f, callers := gs, status := .running, dying := none } w = stepG.apply P true f gs none s w) {res : R} (hd : a.round = none ∨ ∀ d, res ≠ .defer d) (o : Outs P X.B X.w0 E s L h nx w res) :
    Aft P E X (lone f gs w) (AX.apply E a l h nx res) := by
  obtain ⟨lo, h1, h2, h3, h4⟩ := r.top (a' := a)
  cases res with
  | val v h' nx' =>
    obtain ⟨nxt, val, w', M, g1, g2, g3, g4, g5⟩ := o
    exact fnext_sound (r.grow g3 g4) hrun g5 (.one (step_value_of hg g1 g2))
  | enter g as =>
    obtain ⟨vs, g1, g2⟩ := o
    refine doEnter_sound H r g2 (.one (step_lone_go ?_))
    rw [hg]
    have hk := kind_normal (h2.plain hrun).1
    simp [stepG.apply, g1]
    exact congrArg (Frame.enter P g vs) hk
  | round b as =>
    obtain ⟨vs, c, g1, g2, g3⟩ := o
    exact doRound_sound r hrun g1 g3 hg g2
  | defer d =>
    obtain ⟨d', g1, g2⟩ := o
    show Aft P E X (lone f gs w) (doDefer E d a l h nx)
    unfold doDefer
    have hrn : a.round = none := hd.resolve_right (fun q => q d rfl)
    rw [hrn]
    simp only
    have hst : step P (lone f gs w) = .next (lone (({ f with defers := d' :: f.defers } : Frame).finish undef) gs w) := by
      refine step_lone_go ?_
      rw [hg]
      simp [stepG.apply, g1]
    obtain ⟨lo, h1, h2, h3, h4⟩ := r.top (a' := pushDefer a d)
    have hf : FrameR L lo nx (pushDefer a d) { f with defers := d' :: f.defers } := by
      obtain ⟨fn, sz, tmps, todo, defers, mode, deferred, round⟩ := a
      exact ⟨h2.fn, h2.sz, h2.todo, h2.slots, ⟨_, _, rfl, g2, h2.defers⟩, h2.mode, h2.kind, h2.round⟩
    exact fnext_sound (h4 hf (by cases a; rfl) (by cases a; rfl)) (by cases a; exact hrun) VR.unit (.one hst)
  | recover =>
    show Aft P E X (lone f gs w) (doRecover a l h nx)
    unfold doRecover
    split
    · trivial
    · rename_i hrn
      split
      · trivial
      · rename_i c l
        obtain ⟨f2, gs2, hgs, hm, _⟩ := h3.head
        have hno := tryRecover_none (f := f) (gs := gs) h2.kind hgs hm
        have hro : f.roundOf = none := by have := h2.round; rw [hrn] at this; exact this
        have g1 : s.run P w = .ok .recover w := o
        have hst : step P (lone f gs w) = .next (lone (f.finish .nilIface) gs w) := by
          refine step_lone_go ?_
          rw [hg]
          simp [stepG.apply, g1, hro, hno]
        exact fnext_sound r hrun (v := .nili) rfl (.one hst)
  | fork ps =>
    obtain ⟨p, hp, nxt, val, w', M, g1, g2, g3, g4, g5⟩ := o
    show Aft P E X (lone f gs w) (match forkAll a l nx ps with | some l => .fork l | none => .bad "fork")
    split
    · rename_i rs e
      obtain ⟨a', k1, k2⟩ := forkAll_mem e p hp
      have := fnext_sound (P := P) (r.grow g3 g4) hrun g5 (.one (step_value_of hg g1 g2))
      rw [k1] at this
      exact ⟨_, k2, this⟩
    · trivial
  | bad _ => trivial
end
end Go.AX

namespace Go.AX
open Go Go.RowKit

section
variable {P : Program} {E : Env} {X : Cx}

def AItem.isDraw : AItem → Bool
  | .draw .. => true
  | .drawCall .. => true
  | _ => false

/-- a frame that runs, with an item of no draw ahead -/
theorem SR.item {L : Lay} {fn : FuncId} {sz : Nat} {tmps : T AV} {it : AItem} {k : List AItem} {defers : List ADef} {df : Bool} {rd : Option Nat} {l : List AFrame} {h : Heap} {nx : Nat} {f : Frame} {gs : List Frame} {w : World}
    (r : SR E X L ⟨⟨fn, sz, tmps, it :: k, defers, .run, df, rd⟩ :: l, h, nx⟩ (f :: gs) w) (hit : it.isDraw = false) :
    f.mode = .run ∧ TR L tmps f.tmps ∧ ∃ x xs, f.todo = x :: xs ∧ IR L it x ∧ IRL L k xs ∧
      ∀ k' xs', IRL L k' xs' → SR E X L ⟨⟨fn, sz, tmps, k', defers, .run, df, rd⟩ :: l, h, nx⟩ ({ f with todo := xs' } :: gs) w := by
  obtain ⟨lo, h1, h2, h3, _⟩ := r.top (a' := ⟨fn, sz, tmps, it :: k, defers, .run, df, rd⟩)
  have htd := h2.todo rfl
  rcases htd with ⟨⟨x, xs, e, i1, i2⟩, ht⟩ | ⟨ops', mk', did, todo', rest', k', xs, e, _⟩ | ⟨ops', mk', did, l', todo', rest', k', xs, e, _⟩
  · refine ⟨h2.mode, ht, x, xs, e, i1, i2, fun k' xs' hk => ?_⟩
    obtain ⟨lo2, h1', h2', h3', h4'⟩ := r.top (a' := ⟨fn, sz, tmps, k', defers, .run, df, rd⟩)
    exact h4' ⟨h2'.fn, h2'.sz, fun _ => .inl ⟨hk, ht⟩, fun q => (by cases q), h2'.defers, h2'.mode, h2'.kind, h2'.round⟩ rfl rfl
  · simp only at e; injection e with e1 _; subst e1; cases hit
  · simp only at e; injection e with e1 _; subst e1; cases hit

theorem fto_sound {L : Lay} {fn : FuncId} {sz : Nat} {tmps : T AV} {defers : List ADef} {df : Bool} {rd : Option Nat} {l : List AFrame} {h : Heap} {nx : Nat} {f' : Frame} {gs : List Frame} {w : World} {k : List AItem} {m : Machine}
    (r : SR E X L ⟨⟨fn, sz, tmps, k, defers, .run, df, rd⟩ :: l, h, nx⟩ (f' :: gs) w) (hs : Steps P m (lone f' gs w)) : Aft P E X m (fto fn sz tmps defers df rd l h nx k) :=
  ⟨L, f', gs, w, hs, r⟩

theorem aexitTo_sound {L : Lay} {id : Nat} : ∀ {k : List AItem} {xs : List Item}, IRL L k xs → match aexitTo id k with
    | some k' => ∃ xs', exitTo id xs = some xs' ∧ IRL L k' xs'
    | none => exitTo id xs = none
  | [], _, h => by cases h; rfl
  | it :: k, _, ⟨x, xs, e, h1, h2⟩ => by
    subst e
    have ih := aexitTo_sound (id := id) h2
    cases it <;> simp only [IR] at h1 <;> try exact h1.elim
    case inBlock n =>
      subst h1
      simp only [aexitTo, exitTo]
      cases hq : Nat.beq n id with
      | true =>
        have := beq_iff.1 hq
        subst this
        exact ⟨xs, by simp, h2⟩
      | false =>
        have := beq_not.1 hq
        rw [if_neg (by simpa using this)]
        exact ih
    case inRangeFunc n => obtain ⟨c, hc, rfl⟩ := h1; exact ih
    case endRangeFunc n => obtain ⟨c, hc, rfl⟩ := h1; exact ih
    all_goals (subst h1; exact ih)

/-- a frame whose call is over -/
theorem doReturn_go {f g : Frame} {gs : List Frame} {df : Bool} {md : AMode} (hk : f.kind = kindOf df) (hm : g.mode = modeOf md) (val : Value) (w : World) :
    doReturn P true f (g :: gs) none val w = .go { frame := if df then g else g.finish val, callers := gs, status := .running, dying := none } w := by
  cases df
  · simp [doReturn, hk, kindOf]
  · cases md <;> simp [doReturn, hk, kindOf, hm, modeOf]

theorem SR.pop {L : Lay} {a c : AFrame} {l : List AFrame} {h : Heap} {nx : Nat} {f : Frame} {gs : List Frame} {w : World} (r : SR E X L ⟨a :: c :: l, h, nx⟩ (f :: gs) w) : ∃ g gs', gs = g :: gs' ∧ g.mode = modeOf c.mode ∧ f.kind = kindOf a.deferred ∧ SR E X L ⟨c :: l, h, nx⟩ (g :: gs') w := by
  obtain ⟨lo, h1, h2, h3, _⟩ := r.top (a' := a)
  obtain ⟨g, gs', e, hm, _⟩ := h3.head
  subst e
  exact ⟨g, gs', rfl, hm, h2.kind, r.st, r.glob, h3.mono (Lay.le_refl L) (fun _ _ => rfl) h1, r.since, r.last.pop⟩

theorem areturn_sound {L : Lay} {a c : AFrame} {l : List AFrame} {h : Heap} {nx : Nat} {f : Frame} {gs : List Frame} {w w0 : World} (r : SR E X L ⟨a :: c :: l, h, nx⟩ (f :: gs) w) {v : AV} {val : Value} (hv : VR L v val) {f0 : Frame}
    (hst : (stepG P true { frame := f0, callers := gs, status := .running, dying := none } w0).bare = (doReturn P true f gs none val w).bare) : Aft P E X (lone f0 gs w0) (areturn a.deferred (c :: l) h nx v) := by
  obtain ⟨g, gs', rfl, hm, hk, r'⟩ := r.pop
  rw [doReturn_go hk hm] at hst
  unfold areturn
  simp only
  split
  · rename_i hd
    rw [hd] at hst
    exact ⟨L, g, gs', w, .one (step_lone_go hst), r'⟩
  · rename_i hd
    rw [hd] at hst
    split
    · rename_i hrun
      exact fnext_sound r' hrun hv (.one (step_lone_go hst))
    · trivial

theorem aleave_sound {L : Lay} {fn : FuncId} {sz : Nat} {tmps : T AV} {todo0 k : List AItem} {defers : List ADef} {df : Bool} {rd : Option Nat} {l : List AFrame} {h : Heap} {nx : Nat} {f : Frame} {gs : List Frame} {w : World} {jump : Option Code}
    (r : SR E X L ⟨⟨fn, sz, tmps, todo0, defers, .run, df, rd⟩ :: l, h, nx⟩ (f :: gs) w) (ht : TR L tmps f.tmps)
    (h1 : f.roundOf = none → (jump = none ∨ jump = some .ret) → (stepG P true { frame := f, callers := gs, status := .running, dying := none } w).bare = .go { frame := { f with mode := .returning }, callers := gs, status := .running, dying := none } w)
    (h2 : ∀ lb v w', f.roundOf = some lb → (Instr.endRound lb jump).run P w = .ok v w' → (stepG P true { frame := f, callers := gs, status := .running, dying := none } w).bare = (doReturn P true f gs none v w').bare) :
    Aft P E X (lone f gs w) (aleave E ⟨fn, sz, tmps, k, defers, .run, df, rd⟩ l h nx jump) := by
  obtain ⟨lo, g1, g2, g3, g4⟩ := r.top (a' := ⟨fn, sz, tmps, k, defers, .returning, df, rd⟩)
  have hround := g2.round
  cases rd with
  | none =>
    have hro : f.roundOf = none := hround
    have hnext : ∀ j, jump = j → (j = none ∨ j = some .ret) → Aft P E X (lone f gs w) (.next ⟨⟨fn, sz, tmps, k, defers, .returning, df, none⟩ :: l, h, nx⟩) := by
      intro j hj hq
      subst hj
      exact ⟨L, _, gs, w, .one (step_lone_go (h1 hro hq)), g4 ⟨g2.fn, g2.sz, fun q => (by cases q), fun _ => ht, g2.defers, rfl, g2.kind, g2.round⟩ rfl rfl⟩
    unfold aleave
    simp only
    split
    · exact hnext _ rfl (.inl rfl)
    · exact hnext _ rfl (.inr rfl)
    · trivial
  | some b =>
    obtain ⟨c, hc, hro⟩ := hround
    unfold aleave
    simp only
    split
    · rename_i st pend fn' sz' tmps' params assign body db hb
      split
      · rename_i h' hset
        obtain ⟨q1, rfl⟩ := hset_some hset
        obtain ⟨o', ho, arr, cd, hcd, hsz, htr, rfl⟩ := r.st.m.obj _ _ c hb hc
        have hst' : leaveState jump = (if jump.isNone then LoopState.ready else .done) := by cases jump <;> rfl
        have hon : leaveOn jump = jump.isNone := by cases jump <;> rfl
        obtain ⟨k1, k2, k3⟩ := r.st.turnObj (P := P) (ob2 := .loop { state := if jump.isNone then .ready else .done, pending := jump, fn := fn', tmps := arr, params := params.toArray, assign, body, defers := cd.blk }) (o2 := .loop (leaveState jump) jump fn' sz' tmps' params assign body db) hb rfl hc (by simp) ho
          ⟨arr, cd, hcd, hsz, htr, by rw [hst']⟩ q1
        have hrun : (Instr.endRound c.blk jump).run P w = .ok (.bool jump.isNone) { w with heap := w.heap.setIfInBounds c.blk (.loop { state := if jump.isNone then .ready else .done, pending := jump, fn := fn', tmps := arr, params := params.toArray, assign, body, defers := cd.blk }) } := by
          unfold Instr.endRound
          simp only [Sem.run_bind, getLoop_run ho, Result.andThen_ok, k1, Sem.run_pure]
        split
        · trivial
        · rename_i hne
          cases l with
          | nil => exact absurd rfl (hne)
          | cons c' l =>
            refine areturn_sound (a := ⟨fn, sz, tmps, todo0, defers, .run, df, some b⟩) (r.grow k2 k3) (val := .bool jump.isNone) ?_ (h2 _ _ _ hro hrun)
            rw [hon]; rfl
      · trivial
    · trivial

theorem callDeferred_run {f : Frame} {gs : List Frame} {w : World} {g : FuncId} {cap as : Array Value} {fn : Func} {c : Code} (hf : P.funcs[g]? = some fn) (hn : (fn.name == "runtime.NumGoroutine") = false) (hb : fn.body = some c) :
    (callDeferred P f gs none { target := .fn (.func g) cap, args := as } w).bare = .go { frame := Frame.enter P g (as ++ cap) .deferred, callers := f :: gs, status := .running, dying := none } w := by
  have hn' : ¬ fn.name = "runtime.NumGoroutine" := by simpa using hn
  have : (invoke (.fn (.func g) cap) as).run P w = .ok (.enter g (as ++ cap)) w := by simp [invoke, callFunc, hf, hn', hb]
  simp [callDeferred, this]

def resOne (tmps : Array Value) : ResultVar → Sem Value
  | .tmp t => pure (tmps.getD t undef)
  | .cell a t => do loadVar t (← asAddr (tmps.getD a undef))
theorem results_run (H : EnvOk P E) {L : Lay} {h : Heap} {nx : Nat} {w : World} (s : St X.B X.w0 E L h nx w) {t : T AV} {tmps : Array Value} (ht : TR L t tmps) : ∀ {rs : List ResultVar} {vs : List AV}, aresultL E t h rs = some vs →
    ∃ us : List Value, (rs.mapM (resOne tmps)).run P w = .ok us w ∧ VRL L vs us
  | [], vs, e => by
    simp only [aresultL, Option.some.injEq] at e; subst e
    exact ⟨[], by simp, rfl⟩
  | r :: rs, vs, e => by
    unfold aresultL at e
    split at e
    · rename_i v vs' e1 e2
      injection e with e; subst e
      obtain ⟨us, k1, k2⟩ := results_run H s ht e2
      have one : ∃ u, (resOne tmps r).run P w = .ok u w ∧ VR L v u := by
        cases r with
        | tmp d =>
          simp only [aresult, Option.some.injEq] at e1; subst e1
          refine ⟨_, rfl, ?_⟩
          split
          · rename_i a ha; exact (ht d a ha).2 trivial
          · trivial
        | cell a ty =>
          simp only [aresult] at e1
          split at e1
          · rename_i b off hb
            split at e1
            · rename_i cl hcl
              unfold acells at hcl
              split at hcl
              · rename_i l' ex el fz ro hg
                injection hcl with hcl; subst hcl
                obtain ⟨c, hc, hp⟩ := (ht a _ hb).2 trivial
                obtain ⟨u, j1, j2⟩ := loadVar_sound H s.m hg hc e1
                exact ⟨u, by simp only [resOne, hp, asAddr, Sem.run_bind, Sem.run_pure, Result.andThen_ok]; exact j1, j2⟩
              · cases hcl
            · cases e1
          · cases e1
      obtain ⟨u, j1, j2⟩ := one
      refine ⟨u :: us, ?_, ⟨u, us, rfl, j2, k2⟩⟩
      rw [List.mapM_cons]
      simp only [Sem.run_bind, j1, Result.andThen_ok, k1, Sem.run_pure]
    · cases e

theorem aresults_sound (H : EnvOk P E) {L : Lay} {h : Heap} {nx : Nat} {w : World} (s : St X.B X.w0 E L h nx w) {t : T AV} {tmps : Array Value} (ht : TR L t tmps) {fn : Func} {v : AV} (e : aresults E fn.results.toList t h = some v) :
    ∃ val, (results fn tmps).run P w = .ok val w ∧ VR L v val := by
  unfold aresults at e
  have key : ∀ vs, aresultL E t h fn.results.toList = some vs → ∃ us : List Value, VRL L vs us ∧ (results fn tmps).run P w = .ok (if h : us.toArray.size = 1 then us.toArray[0] else .tuple us.toArray) w := by
    intro vs hvs
    obtain ⟨us, k1, k2⟩ := results_run H s ht hvs
    refine ⟨us, k2, ?_⟩
    have hdef : results fn tmps = (do
        let vs ← fn.results.mapM (resOne tmps)
        pure (if h : vs.size = 1 then vs[0] else .tuple vs)) := by
      unfold results
      congr 2
    rw [hdef, Array.mapM_eq_mapM_toList]
    have k1' : (List.toArray <$> fn.results.toList.mapM (resOne tmps)).run P w = .ok us.toArray w := by
      rw [map_eq_pure_bind, Sem.run_bind, k1]; rfl
    rw [Sem.run_bind, k1']
    rfl
  split at e
  · rename_i v' hv
    injection e with e; subst e
    obtain ⟨us, ⟨u, us', e1, k1, k2⟩, k3⟩ := key _ hv
    cases k2
    subst e1
    exact ⟨u, k3, k1⟩
  · rename_i vs hvs hne
    injection e with e; subst e
    obtain ⟨us, k2, k3⟩ := key _ hne
    have hl : us.length ≠ 1 := by
      rw [← k2.length]
      intro q
      cases vs with
      | nil => cases q
      | cons x xs => cases xs with
        | nil => exact hvs x rfl
        | cons _ _ => simp at q
    rw [dif_neg (by simpa using hl)] at k3
    exact ⟨_, k3, us.toArray, rfl, by simpa using k2⟩
  · cases e

theorem aunwind_sound (H : EnvOk P E) {L : Lay} {a : AFrame} {l : List AFrame} {h : Heap} {nx : Nat} {f : Frame} {gs : List Frame} {w : World} (r : SR E X L ⟨a :: l, h, nx⟩ (f :: gs) w) (hmode : a.mode = .returning) :
    Aft P E X (lone f gs w) (aunwind E a l h nx) := by
  obtain ⟨lo, g1, g2, g3, _⟩ := r.top (a' := a)
  have hm : f.mode = .returning := by rw [g2.mode, hmode]; rfl
  have hu : stepG P true { frame := f, callers := gs, status := .running, dying := none } w = unwind P true f gs none w := by simp [stepG, hm]
  have hslots := g2.slots hmode
  have setDefers : ∀ (ds : List ADef) (ds' : List Deferred) {M : Lay} {h' : Heap} {nx' : Nat} {w' : World}, SR E X M ⟨a :: l, h', nx'⟩ (f :: gs) w' → DRL M ds ds' → SR E X M ⟨addDefers a ds :: l, h', nx'⟩ ({ f with defers := ds' } :: gs) w' := by
    intro ds ds' M h' nx' w' r' hd
    obtain ⟨lo, j1, j2, j3, j4⟩ := r'.top (a' := addDefers a ds)
    obtain ⟨fn, sz, tmps, todo, defers, mode, deferred, round⟩ := a
    exact j4 ⟨j2.fn, j2.sz, j2.todo, j2.slots, hd, j2.mode, j2.kind, j2.round⟩ rfl rfl
  unfold aunwind
  split
  · rename_i d ds hdefs
    have hdr := g2.defers
    rw [hdefs] at hdr
    obtain ⟨d', ds', hfd, hd1, hd2⟩ := hdr
    split
    · rename_i b
      obtain ⟨c, hc, rfl⟩ := hd1
      split
      · rename_i calls hb
        split
        · rename_i h' hset
          obtain ⟨q1, rfl⟩ := hset_some hset
          obtain ⟨o', ho, l', rfl, hl'⟩ := r.st.m.obj _ _ c hb hc
          obtain ⟨k1, k2, k3⟩ := r.st.turnObj (P := P) (ob2 := .deferred none) (o2 := .deferred none) hb rfl hc (by simp) ho rfl q1
          have hrun : (Instr.takeDeferred c.blk).run P w = .ok l' { w with heap := w.heap.setIfInBounds c.blk (.deferred none) } := by
            unfold Instr.takeDeferred
            have : (getObj c.blk).run P w = .ok (.deferred (some l')) w := by simp [getObj, Sem.run, ho]
            simp only [Sem.run_bind, this, Result.andThen_ok, k1, Sem.run_pure]
          refine ⟨L, _, gs, _, .one (step_lone_go ?_), setDefers (calls ++ ds) (l' ++ ds') (r.grow k2 k3) (hl'.append hd2)⟩
          rw [hu]
          unfold unwind
          rw [hfd]
          simp [hrun]
        · trivial
      · trivial
    · rename_i g as
      obtain ⟨cap, as', rfl, hv⟩ := hd1
      split
      · rename_i c e
        have e0 := e
        unfold aenter at e0
        split at e0
        · rename_i fi hfi
          split at e0
          · rename_i hext
            obtain ⟨fn, n1, n2, n3⟩ := (H.fn g fi hfi).ok
            rw [hext] at n3
            have r2 := setDefers ds ds' r hd2
            refine ⟨L, _, _, w, .one (step_lone_go ?_), push_sound r2 (enter_sound H e hv nx).1⟩
            rw [hu]
            unfold unwind
            rw [hfd]
            exact callDeferred_run n1 n2 n3.1
          · cases e0
        · cases e0
      · trivial
  · rename_i hdefs
    have hfd : f.defers = [] := by have := g2.defers; rw [hdefs] at this; exact this
    split
    · trivial
    · split
      · trivial
      · split
        · rename_i hrd fi hfi
          split
          · rename_i hext
            obtain ⟨fn, n1, n2, n3⟩ := (H.fn _ fi hfi).ok
            rw [hext] at n3
            obtain ⟨n4, n5, n6⟩ := n3
            split
            · rename_i v hv
              rw [← n6] at hv
              obtain ⟨val, k1, k2⟩ := aresults_sound H r.st hslots hv
              have hfn : P.funcs[f.fn]? = some fn := by rw [g2.fn]; exact n1
              cases l with
              | nil =>
                obtain ⟨z1, z2⟩ := r.last
                obtain ⟨y1, y2⟩ := g3
                subst y1
                exact ⟨L, f, w, val, .refl .., g2.fn.trans z1, ⟨hm, hfd, by rw [g2.kind, z2]; rfl, fn, hfn, k1⟩, k2, r.st, r.glob, r.since, Nat.le_trans y2 g1⟩
              | cons c l =>
                refine areturn_sound r k2 ?_
                rw [hu]
                unfold unwind
                rw [hfd]
                simp [hm, hfn, k1]
            · trivial
          · trivial
        · trivial
end
end Go.AX

namespace Go.AX
open Go Go.RowKit

section
variable {P : Program} {E : Env} {X : Cx} {h : Heap} {nx : Nat}

/-! ### Operations -/
def R.nodefer : R → Prop
  | .defer _ => False
  | _ => True
theorem R.plain.nodefer {r : R} (h : r.plain) : r.nodefer := by cases r <;> trivial
theorem acall_nodefer (f : FuncId) (as : List AV) : (acall E f as h nx).nodefer := by
  unfold acall
  split
  · split
    · trivial
    · unfold aext; repeat' split
      all_goals trivial
  · trivial
theorem nextM_nodefer (r m since : Nat) (seen : List Nat) (last : Nat) (es : List (AV × AV × Nat)) (clock : Nat) : (nextM E r m since seen last es clock h nx).nodefer := by
  unfold nextM; repeat' split
  all_goals trivial
theorem aop_defer {r : Operand → AV} {op : Op} {d : ADef} (e : aop E r op h nx = .defer d) : ∃ c, op = .defer c := by
  have no : ∀ {x : R}, x.nodefer → x = .defer d → False := by intro x hx e; subst e; exact hx
  unfold aop at e
  split at e
  · cases op <;> simp only [aloud, reduceCtorEq] at e
    case store => exact (no (oStore_plain ..).nodefer e).elim
    case mapUpdate => exact (no (amapSet_plain ..).nodefer e).elim
    case insert => exact (no (amapSet_plain ..).nodefer e).elim
    case mapEntry => exact (no (amapEntry_plain ..).nodefer e).elim
    case entryStore => exact (no (aentryStore_plain ..).nodefer e).elim
    case next it str =>
      refine (no ?_ e).elim
      unfold anext; repeat' split
      all_goals first | trivial | exact nextM_nodefer ..
    case call c =>
      refine (no ?_ e).elim
      unfold oCall
      split
      · unfold aloudBuiltin
        repeat' split
        all_goals first | trivial | exact (aappend_plain ..).nodefer | exact (adelete_plain ..).nodefer | exact (acopy_plain ..).nodefer | exact (astring_plain ..).nodefer
      · unfold ainvoke; repeat' split
        all_goals first | trivial | exact acall_nodefer ..
      · unfold acallValue; repeat' split
        all_goals first | trivial | exact acall_nodefer ..
    case defer => exact ⟨_, rfl⟩
  · cases hq : aquiet E r op h <;> rw [hq] at e <;> cases e

theorem stepG_deferInRound {f : Frame} {ops : Array Oper} {i : Nat} {ys : List Nat} {xs : List Item} {o : Oper} {c : Call} {lb : Nat} {gs : List Frame} {w : World} (hm : f.mode = .run) (ht : f.todo = .inRegion ops (i :: ys) :: xs) (ho : ops[i]? = some o)
    (hw : Region.wanted o (yielded ops f.tmps) = true) (hr : f.roundOf = some lb) (hop : o.op = .defer c) :
    stepG P true { frame := f, callers := gs, status := .running, dying := none } w = stepG.apply P true f gs none (do Instr.deferInRound lb (← resolve f.eval c o.type); pure .skip) w := by
  have h1 : stepG P true { frame := f, callers := gs, status := .running, dying := none } w = stepG.oper P true f gs none w := by
    simp [stepG, hm, stepG.exec, ht, ho, hw]
  rw [h1]
  unfold stepG.oper
  have : f.oper? = some o := by simp [Frame.oper?, ht, ho]
  rw [this]
  simp only
  rw [hr, hop]

theorem oper_sound (H : EnvOk P E) {L : Lay} {a : AFrame} {l : List AFrame} {f : Frame} {gs : List Frame} {w : World} (r : SR E X L ⟨a :: l, h, nx⟩ (f :: gs) w) (hrun : a.mode = .run) {ops : Array Oper} {i : Nat} {ys : List Nat} {xs : List Item} {o : Oper}
    (hm : f.mode = .run) (ht : f.todo = .inRegion ops (i :: ys) :: xs) (ho : ops[i]? = some o) (hw : Region.wanted o (yielded ops f.tmps) = true) {ρ : Operand → AV} (hx : ∀ x ∈ o.op.operands, VR L (ρ x) (evalOf f.tmps x)) :
    Aft P E X (lone f gs w) (AX.apply E a l h nx (aop E ρ o.op h nx)) := by
  rw [← Frame.eval_of] at hx
  by_cases hdef : ∃ c, o.op = .defer c
  · obtain ⟨c, hc⟩ := hdef
    cases hround : a.round with
    | none =>
      have hro : f.roundOf = none := by
        obtain ⟨lo, h1, h2, h3, _⟩ := r.top (a' := a)
        have := h2.round; rw [hround] at this; exact this
      exact apply_sound H r hrun (stepG_op_of hm ht ho hw (.inl hro)) (.inl hround) (aop_sound H r.st hx)
    | some b =>
      obtain ⟨cb, hcb, hro⟩ : ∃ c, L b = some c ∧ f.roundOf = some c.blk := by
        obtain ⟨lo, h1, h2, h3, _⟩ := r.top (a' := a)
        have := h2.round; rw [hround] at this; exact this
      have hg := stepG_deferInRound (P := P) (gs := gs) (w := w) hm ht ho hw hro hc
      have hops : ∀ x ∈ c.operands, VR L (ρ x) (f.eval x) := fun x hq => hx x (by rw [hc]; simpa [Op.operands] using hq)
      have hd := adefer_sound (P := P) (w := w) (ty := o.type) hops
      have haop : aop E ρ o.op h nx = adefer ρ c := by rw [hc]; rfl
      rw [haop]
      split at hd
      · rename_i d hd0
        rw [hd0]
        obtain ⟨d', k1, k2⟩ := hd
        show Aft P E X (lone f gs w) (doDefer E d a l h nx)
        unfold doDefer
        rw [hround]
        simp only
        split
        · rename_i st pend fn' sz' tmps' params assign body db hb
          split
          · rename_i ds hdb
            split
            · rename_i h' hset
              obtain ⟨q1, rfl⟩ := hset_some hset
              obtain ⟨o', ho', arr, cd, hcd, hsz, htr, rfl⟩ := r.st.m.obj _ _ cb hb hcb
              obtain ⟨o2, ho2, l', rfl, hl'⟩ := r.st.m.obj _ _ cd hdb hcd
              obtain ⟨j1, j2, j3⟩ := r.st.turnObj (P := P) (ob2 := .deferred (some (d' :: l'))) (o2 := .deferred (some (d :: ds))) hdb rfl hcd (by simp) ho2 ⟨_, rfl, ⟨_, _, rfl, k2, hl'⟩⟩ q1
              have hrun2 : (do Instr.deferInRound cb.blk (← resolve f.eval c o.type); pure Next.skip : Sem Next).run P w = .ok .skip { w with heap := w.heap.setIfInBounds cd.blk (.deferred (some (d' :: l'))) } := by
                have g2 : (getObj cd.blk).run P w = .ok (.deferred (some l')) w := by simp [getObj, Sem.run, ho2]
                simp only [Sem.run_bind, k1, Result.andThen_ok, Instr.deferInRound, getLoop_run ho', g2, j1, Sem.run_pure]
              exact fnext_sound (r.grow j2 j3) hrun VR.unit (.one (step_value_of hg hrun2 (.inr ⟨rfl, rfl⟩)))
            · trivial
          · trivial
        · trivial
      · rename_i q hd0; rw [hd0]; trivial
      · exact hd.elim
  · refine apply_sound H r hrun (stepG_op_of hm ht ho hw (.inr fun c hc => hdef ⟨c, hc⟩)) (.inr fun d hd => hdef (aop_defer hd)) (aop_sound H r.st hx)

/-- is it wanted? all slots are known -/
theorem wanted_plain {L : Lay} {t : T AV} {tmps : Array Value} (ht : TR L t tmps) {ops : Array Oper} {o : Oper} {b : Bool} (hb : awanted ops t o = some b) : Region.wanted o (yielded ops tmps) = b := by
  unfold awanted at hb
  unfold Region.wanted
  cases hgd : o.guard with
  | none => rw [hgd] at hb; simpa using hb
  | some gw =>
    obtain ⟨g, want⟩ := gw
    rw [hgd] at hb
    simp only at hb ⊢
    split at hb
    · cases hb
    · rename_i s hbind
      split at hb
      · rename_i bb hbb
        injection hb with hb
        obtain ⟨h1, h2⟩ := ht s _ hbb
        have h3 : tmps.getD s undef = .bool bb := h2 trivial
        have h4 : tmps[s]? = some (.bool bb) := by
          rw [Array.getElem?_eq_getElem h1]
          simp [h1] at h3
          rw [h3]
        have : yielded ops tmps g = some bb := by unfold yielded; rw [hbind]; simp [h4]
        rw [this, ← hb]
        cases bb <;> cases want <;> rfl
      · rename_i l hbb
        injection hb with hb
        obtain ⟨h1, h2⟩ := ht s _ hbb
        obtain ⟨cs, h3, _⟩ := h2 trivial
        have h4 : tmps[s]? = some (.tuple cs) := by
          rw [Array.getElem?_eq_getElem h1]
          simp [h1] at h3
          rw [h3]
        have : yielded ops tmps g = none := by unfold yielded; rw [hbind]; simp [h4]
        rw [this, ← hb]
        rfl
      · cases hb

theorem reads_plain {L : Lay} {G : Nat} (hg : Glob G L) {t : T AV} {tmps : Array Value} (ht : TR L t tmps) (x : Operand) : VR L (aev G t x) (evalOf tmps x) :=
  aev_sound hg fun i _ a ha => (ht i a ha).2 trivial

theorem sInRegion_sound (H : EnvOk P E) {L : Lay} {fn : FuncId} {sz : Nat} {tmps : T AV} {k : List AItem} {defers : List ADef} {df : Bool} {rd : Option Nat} {l : List AFrame} {f : Frame} {gs : List Frame} {w : World} {ops : Array Oper} {todo : List Nat}
    (r : SR E X L ⟨⟨fn, sz, tmps, .inRegion ops todo :: k, defers, .run, df, rd⟩ :: l, h, nx⟩ (f :: gs) w) : Aft P E X (lone f gs w) (sInRegion E X.G fn sz tmps k defers df rd l h nx ops todo) := by
  obtain ⟨hm, ht, x, xs, hft, hx, hk, go⟩ := r.item rfl
  simp only [IR] at hx; subst hx
  unfold sInRegion
  split
  · exact fto_sound (go k xs hk) (.one (step_lone_go (by simp [stepG, hm, stepG.exec, hft])))
  · rename_i i rest
    split
    · trivial
    · rename_i o ho
      unfold sOp
      split
      · trivial
      · rename_i hw
        have hw' := wanted_plain ht hw
        exact fnext_sound r rfl VR.unit (.one (step_skip_of hm hft (by simp [ho, hw'])))
      · rename_i hw
        exact oper_sound H r rfl hm hft ho (wanted_plain ht hw) (fun x _ => reads_plain r.glob ht x)

theorem adraw_sound (H : EnvOk P E) {L : Lay} {fn : FuncId} {sz : Nat} {tmps : T AV} {k : List AItem} {defers : List ADef} {df : Bool} {rd : Option Nat} {l : List AFrame} {f : Frame} {gs : List Frame} {w : World} {ops : Array Oper} {ph : List Phase} {mk : List (Nat × Nat)}
    (r : SR E X L ⟨⟨fn, sz, tmps, .draw ops ph mk :: k, defers, .run, df, rd⟩ :: l, h, nx⟩ (f :: gs) w) : Aft P E X (lone f gs w) (adraw E X.G fn sz tmps k defers df rd l h nx ops ph mk) := by
  obtain ⟨lo, g1, g2, g3, _⟩ := r.top (a' := ⟨fn, sz, tmps, .draw ops ph mk :: k, defers, .run, df, rd⟩)
  have hm : f.mode = .run := g2.mode
  have hszf : f.tmps.size = sz := g2.sz
  rcases g2.todo rfl with ⟨⟨x, xs, e, i1, i2⟩, ht⟩ | ⟨ops', mk', did, todo, rest, k', xs, e, hft, hk, d, hearly⟩ | ⟨ops', mk', did, l', todo', rest', k', xs, e, _⟩
  · exact i1.elim
  · simp only at e
    injection e with e ek
    injection e with e1 e2 e3
    subst e1; subst e2; subst e3; subst ek
    -- the phase
    have hph : ∃ p rs, phases (allOf ops) did todo = p :: rs ∧ p.quiets = quietsAt (allOf ops) did todo ∧ p.loud = (match todo with | [] => none | l :: _ => some l.i) ∧ rs = (match todo with | [] => [] | l :: todo' => phases (allOf ops) (l :: did) todo') := by
      cases todo with
      | nil => exact ⟨_, _, rfl, rfl, rfl, rfl⟩
      | cons x xs => exact ⟨_, _, rfl, rfl, rfl, rfl⟩
    obtain ⟨p, rs, hp1, hp2, hp3, hp4⟩ := hph
    unfold adraw
    rw [hp1]
    simp only
    split
    · trivial
    · rename_i q hq
      obtain ⟨t', h', nx', mk2⟩ := q
      simp only at hq ⊢
      rw [← hszf, hp2] at hq
      have hnew : ∀ q ∈ quietsAt (allOf ops) did todo, q.2 = true → q.1 ∈ rest ∧ ∀ o, ops[q.1]? = some o → loud o.op = false := by
        intro q hqm hq2
        obtain ⟨a, ha, hsome⟩ := List.mem_filterMap.1 hqm
        obtain ⟨i, o, ho, rfl⟩ := mem_all.1 ha
        split at hsome
        · rename_i hr
          injection hsome with hsome
          have hlo : loud o.op = false := by
            unfold ready at hr
            simp only [Bool.and_eq_true, Bool.not_eq_true'] at hr
            exact hr.1.1
          have hq1 : q.1 = i := by rw [← hsome]; rfl
          refine ⟨?_, fun o' ho' => by rw [hq1, ho] at ho'; injection ho' with ho'; subst ho'; exact hlo⟩
          rw [hq1]
          refine Classical.byContradiction fun hni => ?_
          have := hearly i o ho hlo hni
          cases did with
          | nil => exact this
          | cons x ds =>
            apply this
            rw [← hsome] at hq2
            exact hq2
        · cases hsome
      obtain ⟨d1, s1, hnx, hkept⟩ := quietNew_sound hq hnew g1 d r.st
      have hgrow : Grow E L h nx L h' nx' := ⟨Lay.le_refl L, hnx, hkept, fun _ _ => rfl⟩
      unfold drawPhase
      split
      · trivial
      · rename_i hsame
        rw [hp2] at hsame
        obtain ⟨rest', M, w', tmps', k1, k2, k3, k4, k5, k6, k7⟩ := quiet_steps H (G := X.G) (gs := gs) hsame rest L w f hm hft d1 s1 r.glob
        -- the state behind the quiet ones
        have hbase : X.base ≤ lo := g3.base
        have hlonx : lo ≤ nx' := Nat.le_trans g1 hnx
        have hst : StackR M X.base X.cs0 l gs lo := g3.mono k4 k5 (Nat.le_refl _)
        have hsince : Since E X M h' := ⟨Lay.le_trans r.since.le k4, fun b hb => by rw [k5 b (by omega)]; exact r.since.old b hb, fun b hb => by rw [hkept b hb]; exact r.since.kept b hb⟩
        have build : ∀ {a' : AFrame} {f' : Frame}, FrameR M lo nx' a' f' → a'.fn = fn → a'.deferred = df → SR E X M ⟨a' :: l, h', nx'⟩ (f' :: gs) w' := fun {a' f'} hf h1 h2 =>
          ⟨k3, r.glob.mono k4, ⟨_, _, lo, rfl, hlonx, hf, hst⟩, hsince, r.last.set h1 h2⟩
        rcases k7 with ⟨rfl, htodo⟩ | ⟨l0, todo', ys, htodo, rfl⟩
        · subst htodo
          simp only at hp3
          rw [hp3]
          refine ⟨M, { f with tmps := tmps', todo := xs }, gs, w', k1.trans (.one (step_lone_go (by simp [stepG, hm, stepG.exec]))), build ⟨g2.fn, by rw [k6]; exact hszf, fun _ => .inl ⟨hk.mono k4, ?_⟩, fun q => (by cases q), g2.defers.mono k4, hm, g2.kind, g2.round.mono k4⟩ rfl rfl⟩
          intro i a hi
          obtain ⟨z1, z2⟩ := k2.slots i a hi
          exact ⟨z1, fun _ => z2 (fun j hj => by cases hj)⟩
        · subst htodo
          simp only at hp3 hp4
          rw [hp3]
          simp only
          split
          · trivial
          · rename_i o ho
            rw [hp4]
            have hfr : FrameR M lo nx' ⟨fn, sz, t', .drawCall ops l0.i (phases (allOf ops) (l0 :: did) todo') mk2 :: k, defers, .run, df, rd⟩ { f with tmps := tmps', todo := .inRegion ops (l0.i :: ys) :: xs } :=
              ⟨g2.fn, by rw [k6]; exact hszf, fun _ => .inr (.inr ⟨ops, mk2, did, l0, todo', ys, k, xs, rfl, rfl, hk.mono k4, k2⟩), fun q => (by cases q), g2.defers.mono k4, hm, g2.kind, g2.round.mono k4⟩
            have r2 := build hfr rfl rfl
            refine Aft.of_steps k1 ?_
            unfold drawLoud
            split
            · trivial
            · rename_i hw
              have hw' := k2.wanted ho hw
              exact fnext_sound r2 rfl VR.unit (.one (step_skip_of hm rfl (by simp [ho, hw'])))
            · rename_i hw
              have hw' := k2.wanted ho hw
              have hloud : loud o.op = true := by
                obtain ⟨j1, j2⟩ := k2.todo_mem (List.mem_cons_self ..)
                obtain ⟨i0, o0, j3, rfl⟩ := mem_all.1 j1
                simp only [poAt] at ho j2
                rw [j3] at ho; injection ho with ho; subst ho; exact j2
              have haop : aop E (aev X.G t') o.op h' nx' = aloud E (aev X.G t') o.op h' nx' := by unfold aop; rw [hloud]
              rw [← haop]
              exact oper_sound H r2 rfl hm rfl ho hw' (k2.reads (r.glob.mono k4) ho)
  · simp only at e; injection e with e1 _; cases e1
end
end Go.AX

namespace Go.AX
open Go Go.RowKit

section
variable {P : Program} {E : Env} {X : Cx} {h : Heap} {nx : Nat}

theorem sEndLoop_sound {L : Lay} {fn : FuncId} {sz : Nat} {tmps : T AV} {k : List AItem} {defers : List ADef} {df : Bool} {rd : Option Nat} {l : List AFrame} {f : Frame} {gs : List Frame} {w : World} {b : Nat}
    (r : SR E X L ⟨⟨fn, sz, tmps, .endRangeFunc b :: k, defers, .run, df, rd⟩ :: l, h, nx⟩ (f :: gs) w) : Aft P E X (lone f gs w) (sEndLoop E b fn sz tmps k defers df rd l h nx) := by
  obtain ⟨hm, ht, x, xs, hft, hx, hk, go⟩ := r.item rfl
  obtain ⟨c, hc, rfl⟩ := hx
  unfold sEndLoop
  split
  · rename_i st pending fn' sz' tmps' params assign body db hb
    have main : st ≠ .busy → ∀ h', hset E h b (.loop .exhausted pending fn' sz' tmps' params assign body db) = some h' → Aft P E X (lone f gs w) (fto fn sz tmps defers df rd l h' nx (pendTodo pending k)) := by
      intro hne h' hset
      obtain ⟨q1, rfl⟩ := hset_some hset
      obtain ⟨o', ho, arr, cd, hcd, hsz, htr, rfl⟩ := r.st.m.obj _ _ c hb hc
      obtain ⟨k1, k2, k3⟩ := r.st.turnObj (P := P) (ob2 := .loop { state := .exhausted, pending := pending, fn := fn', tmps := arr, params := params.toArray, assign, body, defers := cd.blk }) (o2 := .loop .exhausted pending fn' sz' tmps' params assign body db) hb rfl hc (by simp) ho ⟨arr, cd, hcd, hsz, htr, rfl⟩ q1
      have hrun : (Instr.endLoop c.blk).run P w = .ok pending { w with heap := w.heap.setIfInBounds c.blk (.loop { state := .exhausted, pending := pending, fn := fn', tmps := arr, params := params.toArray, assign, body, defers := cd.blk }) } := by
        have hb2 : ¬ ((st == LoopState.busy) = true) := by simpa using hne
        unfold Instr.endLoop
        simp only [Sem.run_bind, getLoop_run ho, Result.andThen_ok, if_neg hb2, k1, Sem.run_pure]
      refine fto_sound ((go (pendTodo pending k) ((pending.map Item.code).toList ++ xs) ?_).grow k2 k3) (.one (step_lone_go ?_))
      · cases pending with
        | none => exact hk
        | some c => exact ⟨_, _, rfl, rfl, hk⟩
      · simp [stepG, hm, stepG.exec, hft, hrun]
    cases st with
    | busy => trivial
    | ready =>
      simp only
      split
      · rename_i h' hs; exact main (by simp) h' hs
      · trivial
    | done =>
      simp only
      split
      · rename_i h' hs; exact main (by simp) h' hs
      · trivial
    | exhausted =>
      simp only
      split
      · rename_i h' hs; exact main (by simp) h' hs
      · trivial
  · trivial

theorem sBeginRound_sound {L : Lay} {fn : FuncId} {sz : Nat} {tmps : T AV} {k : List AItem} {defers : List ADef} {df : Bool} {rd : Option Nat} {l : List AFrame} {f : Frame} {gs : List Frame} {w : World}
    (r : SR E X L ⟨⟨fn, sz, tmps, .beginRound :: k, defers, .run, df, rd⟩ :: l, h, nx⟩ (f :: gs) w) : Aft P E X (lone f gs w) (sBeginRound E fn sz tmps k defers df rd l h nx) := by
  obtain ⟨hm, ht, x, xs, hft, hx, hk, go⟩ := r.item rfl
  simp only [IR] at hx; subst hx
  unfold sBeginRound
  cases rd with
  | none => trivial
  | some b =>
    obtain ⟨c, hc, hro⟩ : ∃ c, L b = some c ∧ f.roundOf = some c.blk := by
      obtain ⟨lo, h1, h2, h3, _⟩ := r.top (a' := ⟨fn, sz, tmps, .beginRound :: k, defers, .run, df, some b⟩)
      exact h2.round
    simp only
    split
    · rename_i pending fn' sz' tmps' params assign body db hb
      split
      · rename_i h' hset
        obtain ⟨q1, rfl⟩ := hset_some hset
        obtain ⟨o', ho, arr, cd, hcd, hsz, htr, rfl⟩ := r.st.m.obj _ _ c hb hc
        obtain ⟨k1, k2, k3⟩ := r.st.turnObj (P := P) (ob2 := .loop { state := .busy, pending := pending, fn := fn', tmps := arr, params := params.toArray, assign, body, defers := cd.blk }) (o2 := .loop .busy pending fn' sz' tmps' params assign body db) hb rfl hc (by simp) ho ⟨arr, cd, hcd, hsz, htr, rfl⟩ q1
        have hrun : (do f.roundOf.elim (stuck "beginRound: no round") Instr.beginRound; pure Next.skip : Sem Next).run P w = .ok .skip { w with heap := w.heap.setIfInBounds c.blk (.loop { state := .busy, pending := pending, fn := fn', tmps := arr, params := params.toArray, assign, body, defers := cd.blk }) } := by
          rw [hro]
          simp only [Option.elim, Instr.beginRound, Sem.run_bind, getLoop_run ho, Result.andThen_ok, k1, Sem.run_pure]
        have hg : stepG P true { frame := f, callers := gs, status := .running, dying := none } w = stepG.apply P true f gs none (do f.roundOf.elim (stuck "beginRound: no round") Instr.beginRound; pure Next.skip) w := by
          simp [stepG, hm, stepG.exec, hft]
        have hst := step_value_of (P := P) hg hrun (.inr ⟨rfl, rfl⟩)
        have hfin : f.finish undef = { f with todo := xs } := by simp [Frame.finish, hft]
        rw [hfin] at hst
        exact fto_sound ((go k xs hk).grow k2 k3) (.one hst)
      · trivial
    · trivial

theorem sRegion_sound (H : EnvOk P E) {L : Lay} {fn : FuncId} {sz : Nat} {tmps : T AV} {k : List AItem} {defers : List ADef} {df : Bool} {rd : Option Nat} {l : List AFrame} {f : Frame} {gs : List Frame} {w : World} {id : Nat} {ops : Array Oper} {dr : Bool}
    (r : SR E X L ⟨⟨fn, sz, tmps, .code (.region id ops dr) :: k, defers, .run, df, rd⟩ :: l, h, nx⟩ (f :: gs) w) : Aft P E X (lone f gs w) (sRegion fn sz tmps k defers df rd l h nx ops dr) := by
  obtain ⟨hm, ht, x, xs, hft, hx, hk, go⟩ := r.item rfl
  simp only [IR] at hx; subst hx
  unfold sRegion
  cases dr with
  | false => exact fto_sound (go (.inRegion ops (List.range ops.size) :: k) (.inRegion ops (List.range ops.size) :: xs) ⟨_, _, rfl, rfl, hk⟩) (.one (step_lone_go (by simp [stepG, hm, stepG.exec, hft])))
  | true =>
    simp only
    split
    · rename_i ph hp
      obtain ⟨R, rfl⟩ := plan_ok hp
      have hmix := H.mixed
      obtain ⟨n1, n2, n3⟩ := schedule_ok R (w.tape w.drawn (.order f.fn id))
      have hst : step P (lone f gs w) = .next (lone { f with todo := .inRegion ops (Region.schedule true ops (w.tape w.drawn (.order f.fn id))) :: xs } gs w.drew) := by
        refine step_lone_go ?_
        simp [stepG, hm, stepG.exec, hft, choose, Sem.run, Question.forced, Question.cut, hmix]
      obtain ⟨lo, g1, g2, g3, _⟩ := r.top (a' := ⟨fn, sz, tmps, .code (.region id ops true) :: k, defers, .run, df, rd⟩)
      refine ⟨L, _, gs, w.drew, .one hst, ⟨r.st.drew, r.glob, ⟨_, _, lo, rfl, g1, ⟨g2.fn, g2.sz, fun _ => .inr (.inl ⟨ops, [], [], _, _, k, xs, rfl, rfl, hk, ⟨R, by simp, n3, n1, fun i hi => (n2 i).1 hi, fun _ hx => (by cases hx), fun x hx => ?_, fun i hi hni => absurd ((n2 i).2 hi) hni, ?_, fun _ hp => (by cases hp), .nil⟩, ?_⟩), fun q => (by cases q), g2.defers, hm, g2.kind, g2.round⟩, g3⟩, r.since, r.last⟩⟩
      · obtain ⟨h1, _⟩ := List.mem_filter.1 hx
        obtain ⟨i, o, ho, rfl⟩ := mem_all.1 h1
        exact (n2 i).2 (Array.getElem?_eq_some_iff.1 ho).1
      · exact fun i a hi => ⟨(ht i a hi).1, fun _ => (ht i a hi).2 trivial⟩
      · intro i o ho _ hni
        exact absurd ((n2 i).2 (Array.getElem?_eq_some_iff.1 ho).1) hni
    · trivial

theorem sRange_sound (H : EnvOk P E) {L : Lay} {fn : FuncId} {sz : Nat} {tmps : T AV} {k : List AItem} {defers : List ADef} {df : Bool} {rd : Option Nat} {l : List AFrame} {f : Frame} {gs : List Frame} {w : World} {g : Operand} {params : Array Tmp} {assign body : Code}
    (r : SR E X L ⟨⟨fn, sz, tmps, .code (.rangeFunc g params assign body) :: k, defers, .run, df, rd⟩ :: l, h, nx⟩ (f :: gs) w) : Aft P E X (lone f gs w) (sRange E X.G fn sz tmps k defers df rd l h nx g params assign body) := by
  obtain ⟨hm, ht, x, xs, hft, hx, hk, go⟩ := r.item rfl
  simp only [IR] at hx; subst hx
  obtain ⟨lo, g1, g2, g3, _⟩ := r.top (a' := ⟨fn, sz, tmps, .code (.rangeFunc g params assign body) :: k, defers, .run, df, rd⟩)
  have hffn : f.fn = fn := g2.fn
  have hfsz : f.tmps.size = sz := g2.sz
  -- the loop's block
  have ready : ∀ (M : Lay) (h1 : Heap) (nx1 db : Nat) (w1 : World) (cd : Loc) (mark : List ADef) (mark' : List Deferred), St X.B X.w0 E M h1 nx1 w1 → Grow E L h nx M h1 nx1 → M db = some cd → DRL M mark mark' →
      (Instr.enterLoop f.fn f.tmps params assign body f.roundOf).run P w = .ok (w1.heap.size, mark') (w1.alloc (.loop { state := .ready, pending := none, fn := f.fn, tmps := f.tmps, params, assign, body, defers := cd.blk })) →
      Aft P E X (lone f gs w) (sRangeReady E X.G fn sz tmps k defers df rd l g params assign body h1 nx1 db mark) := by
    intro M h1 nx1 db w1 cd mark mark' s1 gr hcd hmark hent
    unfold sRangeReady
    have hev : VR L (aev X.G tmps g) (f.eval g) := by rw [Frame.eval_of]; exact reads_plain r.glob ht g
    split
    · rename_i gf first captured hgf
      rw [hgf] at hev
      split
      · rename_i g' args hac
        have hac' : g' = gf ∧ args = first ++ [.yield nx1] ++ captured ∧ ∃ fi, E.fn gf = some fi ∧ fi.ext = none := by
          unfold acall at hac
          split at hac
          · rename_i fi hfi
            split at hac
            · rename_i hext
              injection hac with e1 e2
              exact ⟨e1.symm, e2.symm, fi, hfi, hext⟩
            · rename_i kk _
              unfold aext at hac
              repeat' split at hac
              all_goals cases hac
          · cases hac
        obtain ⟨rfl, rfl, fi, hfi, hext⟩ := hac'
        obtain ⟨va, vb, hfv, hv1, hv2⟩ := hev
        have hfr := s1.fresh nx1 (Nat.le_refl _)
        have hle' := Lay.le_put M ⟨w1.heap.size, 0, 0⟩ hfr
        -- memory with the loop
        have hm1 : MR X.B X.w0 (M.put nx1 ⟨w1.heap.size, 0, 0⟩) (h1.set nx1 (.loop .ready none fn sz tmps params.toList assign body db)) (w1.alloc (.loop { state := .ready, pending := none, fn := f.fn, tmps := f.tmps, params, assign, body, defers := cd.blk })) :=
          s1.m.alloc hfr rfl ⟨f.tmps, cd, hle' _ _ hcd, hfsz, (ht.mono gr.le).mono hle', by rw [hffn]⟩
        have s2 : St X.B X.w0 E (M.put nx1 ⟨w1.heap.size, 0, 0⟩) (h1.set nx1 (.loop .ready none fn sz tmps params.toList assign body db)) (nx1 + 1) (w1.alloc (.loop { state := .ready, pending := none, fn := f.fn, tmps := f.tmps, params, assign, body, defers := cd.blk })) :=
          ⟨hm1, fun b hb => by rw [Lay.put_other _ _ (by omega)]; exact s1.fresh b (by omega), by have := s1.fl; omega⟩
        have gr2 : Grow E M h1 nx1 (M.put nx1 ⟨w1.heap.size, 0, 0⟩) (h1.set nx1 (.loop .ready none fn sz tmps params.toList assign body db)) (nx1 + 1) :=
          ⟨hle', by omega, kept_set s1.fl, fun b hb => Lay.put_other _ _ (by omega)⟩
        have r2 := (go (.inRangeFunc nx1 :: k) (.inRangeFunc w1.heap.size :: xs)) 
        have hput : (M.put nx1 ⟨w1.heap.size, 0, 0⟩) nx1 = some ⟨w1.heap.size, 0, 0⟩ := Lay.put_same ..
        -- the frame
        have hLe : L.le (M.put nx1 ⟨w1.heap.size, 0, 0⟩) := Lay.le_trans gr.le hle'
        have gr3 := gr.trans gr2
        have hfr2 : FrameR (M.put nx1 ⟨w1.heap.size, 0, 0⟩) lo (nx1 + 1) ⟨fn, sz, tmps, .inRangeFunc nx1 :: k, mark ++ defers, .run, df, rd⟩ { f with todo := .inRangeFunc w1.heap.size :: xs, defers := mark' ++ f.defers } :=
          ⟨hffn, hfsz, fun _ => .inl ⟨⟨_, _, rfl, ⟨_, hput, rfl⟩, hk.mono hLe⟩, ht.mono hLe⟩, fun q => (by cases q), (hmark.mono hle').append (g2.defers.mono hLe), hm, g2.kind, g2.round.mono hLe⟩
        have hbase : X.base ≤ lo := g3.base
        have hlo2 : lo ≤ nx1 + 1 := Nat.le_trans g1 gr3.nle
        have r3 : SR E X (M.put nx1 ⟨w1.heap.size, 0, 0⟩) ⟨⟨fn, sz, tmps, .inRangeFunc nx1 :: k, mark ++ defers, .run, df, rd⟩ :: l, h1.set nx1 (.loop .ready none fn sz tmps params.toList assign body db), nx1 + 1⟩ ({ f with todo := .inRangeFunc w1.heap.size :: xs, defers := mark' ++ f.defers } :: gs)
            (w1.alloc (.loop { state := .ready, pending := none, fn := f.fn, tmps := f.tmps, params, assign, body, defers := cd.blk })) := by
          refine ⟨s2, r.glob.mono hLe, ⟨_, _, lo, rfl, hlo2, hfr2, g3.mono hLe (fun b hb => gr3.old b (by omega)) (Nat.le_refl _)⟩, ⟨Lay.le_trans r.since.le hLe, fun b hb => ?_, fun b hb => ?_⟩, r.last.set rfl rfl⟩
          · rw [gr3.old b (by omega)]; exact r.since.old b hb
          · rw [gr3.kept b hb]; exact r.since.kept b hb
        obtain ⟨fnc, n1, n2, n3⟩ := (H.fn g' fi hfi).ok
        rw [hext] at n3
        obtain ⟨n4, _⟩ := n3
        have n2' : ¬ fnc.name = "runtime.NumGoroutine" := by simpa using n2
        have hyv : VRL (M.put nx1 ⟨w1.heap.size, 0, 0⟩) (first ++ [.yield nx1] ++ captured) (va ++ #[Value.func (.yield w1.heap.size) #[] #[]] ++ vb).toList := by
          have hy1 : VRL (M.put nx1 ⟨w1.heap.size, 0, 0⟩) [.yield nx1] [Value.func (.yield w1.heap.size) #[] #[]] := ⟨_, _, rfl, ⟨_, hput, rfl⟩, rfl⟩
          simp only [Array.toList_append]
          exact ((hv1.mono hLe).append hy1).append (hv2.mono hLe)
        refine doEnter_sound H r3 hyv (.one (step_lone_go ?_))
        have he : ∀ md, ({ f with todo := .inRangeFunc w1.heap.size :: xs, defers := mark' ++ f.defers, mode := md } : Frame).eval g = f.eval g := fun md => by rw [Frame.eval_of, Frame.eval_of]
        have hres : ∀ md, (resolve (({ f with todo := .inRangeFunc w1.heap.size :: xs, defers := mark' ++ f.defers, mode := md } : Frame).eval) { callee := .value g, args := #[.const (.func (.yield w1.heap.size) #[] #[])], argTypes := #[] } 0).run P
            (w1.alloc (.loop { state := .ready, pending := none, fn := f.fn, tmps := f.tmps, params, assign, body, defers := cd.blk })) = .ok { target := .fn (.func g') vb, args := va.push (.func (.yield w1.heap.size) #[] #[]) } (w1.alloc (.loop { state := .ready, pending := none, fn := f.fn, tmps := f.tmps, params, assign, body, defers := cd.blk })) := by
          intro md
          simp only [resolve, he md, hfv, Deferred.ofValue]
          simp [Frame.eval]
        have hinv : ∀ w2, (invoke (.fn (.func g') vb) (va.push (.func (.yield w1.heap.size) #[] #[]))).run P w2 = .ok (.enter g' (va.push (.func (.yield w1.heap.size) #[] #[]) ++ vb)) w2 := by
          intro w2
          simp [invoke, callFunc, n1, n2', n4]
        simp [stepG, hm, stepG.exec, hft, hent, stepG.apply, hres, hinv]
      · trivial
    · trivial
  unfold sRange
  cases rd with
  | some b =>
    obtain ⟨c, hc, hro⟩ : ∃ c, L b = some c ∧ f.roundOf = some c.blk := g2.round
    simp only
    split
    · rename_i st pend fn' sz' tmps' ps as' bd db hb
      obtain ⟨o', ho, arr, cd, hcd, hsz, htr, rfl⟩ := r.st.m.obj _ _ c hb hc
      refine ready L h nx db w cd [] [] r.st (Grow.refl ..) hcd rfl ?_
      unfold Instr.enterLoop
      rw [hro]
      simp only [Sem.run_bind, getLoop_run ho, Result.andThen_ok, Sem.run_pure]
      rfl
    · trivial
  | none =>
    have hro : f.roundOf = none := g2.round
    have hfr := r.st.fresh nx (Nat.le_refl _)
    have hle' := Lay.le_put L ⟨w.heap.size, 0, 0⟩ hfr
    have hm1 : MR X.B X.w0 (L.put nx ⟨w.heap.size, 0, 0⟩) (h.set nx (.deferred (some []))) (w.alloc (.deferred (some []))) := r.st.m.alloc hfr rfl ⟨[], rfl, rfl⟩
    have hfl : E.floor ≤ nx := r.st.fl
    have s1 : St X.B X.w0 E (L.put nx ⟨w.heap.size, 0, 0⟩) (h.set nx (.deferred (some []))) (nx + 1) (w.alloc (.deferred (some []))) :=
      ⟨hm1, fun b hb => by
        have hne : b ≠ nx := by omega
        rw [Lay.put_other _ _ hne]; exact r.st.fresh b (show nx ≤ b by omega), by omega⟩
    have gr1 : Grow E L h nx (L.put nx ⟨w.heap.size, 0, 0⟩) (h.set nx (.deferred (some []))) (nx + 1) :=
      ⟨hle', by omega, kept_set hfl, fun b hb => Lay.put_other _ _ (by omega)⟩
    refine ready (L.put nx ⟨w.heap.size, 0, 0⟩) (h.set nx (.deferred (some []))) (nx + 1) nx (w.alloc (.deferred (some []))) ⟨w.heap.size, 0, 0⟩ [.collected nx] [{ target := .collected w.heap.size, args := #[] }]
      s1 gr1 (Lay.put_same ..) ⟨_, _, rfl, ⟨_, Lay.put_same .., rfl⟩, rfl⟩ ?_
    unfold Instr.enterLoop
    rw [hro]
    rfl

theorem sCode_sound (H : EnvOk P E) {L : Lay} {fn : FuncId} {sz : Nat} {tmps : T AV} {k : List AItem} {defers : List ADef} {df : Bool} {rd : Option Nat} {l : List AFrame} {f : Frame} {gs : List Frame} {w : World} {c : Code}
    (r : SR E X L ⟨⟨fn, sz, tmps, .code c :: k, defers, .run, df, rd⟩ :: l, h, nx⟩ (f :: gs) w) : Aft P E X (lone f gs w) (sCode E X.G fn sz tmps k defers df rd l h nx c) := by
  have r0 := r
  obtain ⟨hm, ht, x, xs, hft, hx, hk, go⟩ := r.item rfl
  simp only [IR] at hx; subst hx
  cases c with
  | skip => exact fto_sound (go k xs hk) (.one (step_lone_go (by simp [stepG, hm, stepG.exec, hft])))
  | label n => exact fto_sound (go k xs hk) (.one (step_lone_go (by simp [stepG, hm, stepG.exec, hft])))
  | seq a b => exact fto_sound (go (.code a :: .code b :: k) (.code a :: .code b :: xs) ⟨_, _, rfl, rfl, _, _, rfl, rfl, hk⟩) (.one (step_lone_go (by simp [stepG, hm, stepG.exec, hft])))
  | block id body => exact fto_sound (go (.code body :: .inBlock id :: k) (.code body :: .inBlock id :: xs) ⟨_, _, rfl, rfl, _, _, rfl, rfl, hk⟩) (.one (step_lone_go (by simp [stepG, hm, stepG.exec, hft])))
  | loop body => exact fto_sound (go (.code body :: .inLoop body :: k) (.code body :: .inLoop body :: xs) ⟨_, _, rfl, rfl, _, _, rfl, rfl, hk⟩) (.one (step_lone_go (by simp [stepG, hm, stepG.exec, hft])))
  | scope body => exact fto_sound (go (.code body :: .inScope body :: k) (.code body :: .inScope body :: xs) ⟨_, _, rfl, rfl, _, _, rfl, rfl, hk⟩) (.one (step_lone_go (by simp [stepG, hm, stepG.exec, hft])))
  | goto n => trivial
  | refuse n => trivial
  | cond c a b =>
    have hev : VR L (aev X.G tmps c) (f.eval c) := by rw [Frame.eval_of]; exact reads_plain r.glob ht c
    show Aft P E X (lone f gs w) (sCond fn sz tmps k defers df rd l h nx (aev X.G tmps c) a b)
    unfold sCond
    split
    · rename_i e; rw [e] at hev
      simp only [VR] at hev
      exact fto_sound (go (.code a :: k) (.code a :: xs) ⟨_, _, rfl, rfl, hk⟩) (.one (step_lone_go (by simp [stepG, hm, stepG.exec, hft, hev])))
    · rename_i e; rw [e] at hev
      simp only [VR] at hev
      exact fto_sound (go (.code b :: k) (.code b :: xs) ⟨_, _, rfl, rfl, hk⟩) (.one (step_lone_go (by simp [stepG, hm, stepG.exec, hft, hev])))
    · trivial
  | ret =>
    show Aft P E X (lone f gs w) (aleave E ⟨fn, sz, tmps, k, defers, .run, df, rd⟩ l h nx (some .ret))
    refine aleave_sound r0 ht (fun hro _ => by simp [stepG, hm, stepG.exec, hft, hro]) (fun lb v w' hro hrun => ?_)
    simp [stepG, hm, stepG.exec, hft, hro, hrun]
  | exit id =>
    show Aft P E X (lone f gs w) (sJump E fn sz tmps k defers df rd l h nx (aexitTo id k) (.exit id))
    have he := aexitTo_sound (id := id) hk
    unfold sJump
    split
    · rename_i k' hk'
      rw [hk'] at he
      obtain ⟨xs', e1, e2⟩ := he
      exact fto_sound (go k' xs' e2) (.one (step_lone_go (by simp [stepG, hm, stepG.exec, hft, e1])))
    · rename_i hk'
      rw [hk'] at he
      simp only at he
      split
      · trivial
      · refine aleave_sound r0 ht (fun hro hj => ?_) (fun lb v w' hro hrun => ?_)
        · rcases hj with hj | hj <;> cases hj
        · simp [stepG, hm, stepG.exec, hft, he, hro, hrun]
  | rangeFunc g params assign body => exact sRange_sound H r0
  | region id ops dr => exact sRegion_sound H r0

theorem astep_sound (H : EnvOk P E) {L : Lay} {S : AState} {f : Frame} {gs : List Frame} {w : World} (r : SR E X L S (f :: gs) w) : Aft P E X (lone f gs w) (astep E X.G S) := by
  obtain ⟨fs, h, nx⟩ := S
  unfold astep
  cases fs with
  | nil => trivial
  | cons a l =>
    obtain ⟨fn, sz, tmps, todo, defers, mode, df, rd⟩ := a
    cases mode with
    | returning => exact aunwind_sound H r rfl
    | run =>
      show Aft P E X (lone f gs w) (sRun E X.G fn sz tmps todo defers df rd l h nx)
      cases todo with
      | nil =>
        obtain ⟨lo, g1, g2, g3, _⟩ := r.top (a' := ⟨fn, sz, tmps, [], defers, .run, df, rd⟩)
        rcases g2.todo rfl with ⟨i1, ht⟩ | ⟨ops', mk', did, todo', rest', k', xs, e, _⟩ | ⟨ops', mk', did, l', todo', rest', k', xs, e, _⟩
        · have hft : f.todo = [] := i1
          have hm : f.mode = .run := g2.mode
          refine aleave_sound (jump := none) r ht (fun hro _ => by simp [stepG, hm, stepG.exec, hft, hro]) (fun lb v w' hro hrun => ?_)
          simp [stepG, hm, stepG.exec, hft, hro, hrun]
        · cases e
        · cases e
      | cons it k =>
        have r0 := r
        cases it with
        | code c => exact sCode_sound H r0
        | inRegion ops todo => exact sInRegion_sound H r0
        | draw ops ph mk => exact adraw_sound H r0
        | drawCall ops i ph mk => trivial
        | inRangeFunc b => trivial
        | endRangeFunc b => exact sEndLoop_sound r0
        | beginRound => exact sBeginRound_sound r0
        | inBlock n =>
          obtain ⟨hm, ht, x, xs, hft, hx, hk, go⟩ := r.item rfl
          simp only [IR] at hx; subst hx
          exact fto_sound (go k xs hk) (.one (step_lone_go (by simp [stepG, hm, stepG.exec, hft])))
        | inScope n =>
          obtain ⟨hm, ht, x, xs, hft, hx, hk, go⟩ := r.item rfl
          simp only [IR] at hx; subst hx
          exact fto_sound (go k xs hk) (.one (step_lone_go (by simp [stepG, hm, stepG.exec, hft])))
        | inLoop body =>
          obtain ⟨hm, ht, x, xs, hft, hx, hk, go⟩ := r.item rfl
          simp only [IR] at hx; subst hx
          exact fto_sound (go (.code body :: .inLoop body :: k) (.code body :: .inLoop body :: xs) ⟨_, _, rfl, rfl, _, _, rfl, rfl, hk⟩) (.one (step_lone_go (by simp [stepG, hm, stepG.exec, hft])))
end
end Go.AX

namespace Go.AX
open Go Go.RowKit

theorem EnvOk.withFloor {P : Program} {E : Env} (H : EnvOk P E) (n : Nat) : EnvOk P (withFloor E n) := by
  obtain ⟨ty, fn, meth, iso, fl⟩ := E
  exact ⟨H.ty, H.fn, H.meth, H.mixed⟩
theorem floor_withFloor (E : Env) (n : Nat) : (withFloor E n).floor = n := rfl

section
variable {P : Program} {E : Env} {X : Cx}
theorem ways_mem {G n : Nat} : ∀ {ls : List AState} {l : List (AV × Heap × Nat)}, ls.foldr (fun S acc => match aways E G n S, acc with
      | some a, some b => some (a ++ b)
      | _, _ => none) (some []) = some l → ∀ S ∈ ls, ∃ a, aways E G n S = some a ∧ ∀ p ∈ a, p ∈ l
  | [], _, _, _, hS => by cases hS
  | S0 :: ls, l, e, S, hS => by
    rw [List.foldr_cons] at e
    split at e
    · rename_i a b e1 e2
      injection e with e; subst e
      rcases List.mem_cons.1 hS with rfl | hS
      · exact ⟨a, e1, fun p hp => List.mem_append_left _ hp⟩
      · obtain ⟨a', k1, k2⟩ := ways_mem e2 S hS
        exact ⟨a', k1, fun p hp => List.mem_append_right _ (k2 p hp)⟩
    · cases e

theorem aways_sound (H : EnvOk P E) : ∀ (n : Nat) {S : AState} {l : List (AV × Heap × Nat)}, aways E X.G n S = some l → ∀ {m : Machine}, Goes P E X m S → ∃ p ∈ l, Aft P E X m (.done p.1 p.2.1 p.2.2)
  | 0, _, _, e, _, _ => by cases e
  | n + 1, S, l, e, m, g => by
    obtain ⟨L, f, gs, w, hs, r⟩ := g
    have ha := (astep_sound H r).of_steps hs
    unfold aways at e
    split at e
    · rename_i S' hS
      rw [hS] at ha
      exact aways_sound H n e ha
    · rename_i v h nx hS
      rw [hS] at ha
      injection e with e; subst e
      exact ⟨_, List.mem_cons_self .., ha⟩
    · rename_i ls hS
      rw [hS] at ha
      obtain ⟨S', hm, hg⟩ := ha
      obtain ⟨a, k1, k2⟩ := ways_mem e S' hm
      obtain ⟨p, hp, hd⟩ := aways_sound H n k1 hg
      exact ⟨p, k2 p hp, hd⟩
    · cases e

theorem sameIn_spec {b : Nat} {o : AObj} : ∀ {l : List Heap}, sameIn b o l = true → ∀ h ∈ l, h.get b = some o
  | [], _, _, hm => by cases hm
  | h0 :: l, e, h, hm => by
    unfold sameIn at e
    split at e
    · rename_i o' ho
      split at e
      · rename_i hq
        rcases List.mem_cons.1 hm with rfl | hm
        · rw [ho, objEq_sound hq]
        · exact sameIn_spec e h hm
      · cases e
    · cases e
theorem get_delAt (h : Heap) (b x : Nat) : (delAt h b).get x = if x = b then none else h.get x := by
  unfold delAt
  split
  · rw [T.get_del]
  · rename_i hn
    split
    · rename_i q; rw [q]; exact hn
    · rfl
theorem ajoin_spec (w : Heap) (l : List Heap) : ∀ (n b : Nat) (h : Heap) (x : Nat) (o : AObj), (ajoin w l b n h).get x = some o →
    ((x < b ∨ b + n ≤ x) ∧ h.get x = some o) ∨ (b ≤ x ∧ x < b + n ∧ w.get x = some o ∧ ∀ h' ∈ l, h'.get x = some o)
  | 0, b, h, x, o, e => .inl ⟨by omega, e⟩
  | n + 1, b, h, x, o, e => by
    unfold ajoin at e
    have del : (ajoin w l (b + 1) n (delAt h b)).get x = some o → ((x < b ∨ b + (n + 1) ≤ x) ∧ h.get x = some o) ∨ (b ≤ x ∧ x < b + (n + 1) ∧ w.get x = some o ∧ ∀ h' ∈ l, h'.get x = some o) := by
      intro e
      rcases ajoin_spec w l n (b + 1) _ x o e with ⟨h1, h2⟩ | ⟨h1, h2, h3⟩
      · rw [get_delAt] at h2
        split at h2
        · cases h2
        · exact .inl ⟨by omega, h2⟩
      · exact .inr ⟨by omega, by omega, h3⟩
    split at e
    · rename_i o' ho
      split at e
      · rename_i hs
        rcases ajoin_spec w l n (b + 1) _ x o e with ⟨h1, h2⟩ | ⟨h1, h2, h3⟩
        · rw [T.get_set] at h2
          split at h2
          · rename_i q; subst q
            injection h2 with h2; subst h2
            exact .inr ⟨by omega, by omega, ho, sameIn_spec hs⟩
          · exact .inl ⟨by omega, h2⟩
        · exact .inr ⟨by omega, by omega, h3⟩
      · exact del e
    · exact del e
theorem sameWays_spec {v : AV} {nx : Nat} : ∀ {l : List (AV × Heap × Nat)}, sameWays v nx l = true → ∀ x ∈ l, x.1 = v ∧ x.2.2 = nx
  | [], _, _, hm => by cases hm
  | y :: l, e, x, hm => by
    unfold sameWays at e
    split at e
    · rename_i hq
      simp only [Bool.and_eq_true, beq_iff] at hq
      rcases List.mem_cons.1 hm with rfl | hm
      · exact ⟨(avEq_sound hq.1).symm, hq.2.symm⟩
      · exact sameWays_spec e x hm
    · cases e
theorem mem_heapsOf : ∀ {l : List (AV × Heap × Nat)} {x : AV × Heap × Nat}, x ∈ l → x.2.1 ∈ heapsOf l
  | y :: l, x, h => by
    rcases List.mem_cons.1 h with rfl | h
    · exact List.mem_cons_self ..
    · exact List.mem_cons_of_mem _ (mem_heapsOf h)

theorem aiso_sound (H : EnvOk P E) {fuel : Nat} {f : FuncId} {args : List AV} {S S' : AState} (e : aiso E X.G fuel f args S = some S') {L : Lay} {g : Frame} {gs : List Frame} {w : World} {vs : Array Value} (hv : VRL L args vs.toList) (r : SR E X L S (g :: gs) w) :
    Goes P E X (lone (Frame.enter P f vs .normal) (g :: gs) w) S' := by
  obtain ⟨fs, h, nx⟩ := S
  unfold aiso at e
  simp only at e
  split at e
  · rename_i fr cs
    split at e
    · rename_i hrun
      split at e
      · cases e
      · rename_i c hc
        split at e
        · rename_i w1 l hw
          split at e
          · rename_i hsame
            split at e
            · rename_i fr' hfin
              injection e with e; subst e
              -- the call alone
              let X' : Cx := ⟨X.G, X.B, X.w0, L, h, nx, g :: gs, f⟩
              obtain ⟨hfr, hcfn, hcdf⟩ := enter_sound H hc hv nx
              have r1 : SR (withFloor E nx) X' L ⟨[c], h, nx⟩ (Frame.enter P f vs .normal :: g :: gs) w :=
                ⟨⟨r.st.m, r.st.fresh, Nat.le_refl _⟩, r.glob, ⟨_, _, nx, rfl, Nat.le_refl _, hfr, rfl, Nat.le_refl _⟩, ⟨Lay.le_refl L, fun _ _ => rfl, fun _ _ => rfl⟩, ⟨hcfn, hcdf⟩⟩
              obtain ⟨p, hp, L', f', w', val, k1, k2, k3, k4, k5, k6, k7, k8⟩ := aways_sound (X := X') (H.withFloor nx) fuel hw ⟨L, _, _, w, .refl .., r1⟩
              have hpe : p.1 = w1.1 ∧ p.2.2 = w1.2.2 := by
                rcases List.mem_cons.1 hp with rfl | hp
                · exact ⟨rfl, rfl⟩
                · exact sameWays_spec hsame p hp
              have hk7 : ∀ b, b < nx → p.2.1.get b = h.get b := k7.kept
              have hold : ∀ b, b < nx → L' b = L b := k7.old
              have hle : L.le L' := k7.le
              have hnx : nx ≤ w1.2.2 := by rw [← hpe.2]; exact k8
              have hsub : ∀ b o, L' b ≠ none → (ajoin w1.2.1 (heapsOf l) nx (w1.2.2 - nx) h).get b = some o → p.2.1.get b = some o := by
                intro b o hb hg
                rcases ajoin_spec _ _ _ _ _ _ _ hg with ⟨q1, q2⟩ | ⟨q1, q2, q3, q4⟩
                · rcases q1 with q1 | q1
                  · rw [hk7 b q1]; exact q2
                  · exact absurd (k5.fresh b (by rw [hpe.2]; omega)) hb
                · rcases List.mem_cons.1 hp with rfl | hp
                  · exact q3
                  · exact q4 _ (mem_heapsOf hp)
              have hkeep : ∀ b, b < nx → (ajoin w1.2.1 (heapsOf l) nx (w1.2.2 - nx) h).get b = h.get b := by
                have key : ∀ (n b0 : Nat) (hh : Heap) (b : Nat), b < b0 → (ajoin w1.2.1 (heapsOf l) b0 n hh).get b = hh.get b := by
                  intro n
                  induction n with
                  | zero => intro b0 hh b _; rfl
                  | succ n ih =>
                    intro b0 hh b hb
                    unfold ajoin
                    split
                    · split
                      · rw [ih _ _ _ (by omega), T.get_set, if_neg (by omega)]
                      · rw [ih _ _ _ (by omega), get_delAt, if_neg (by omega)]
                    · rw [ih _ _ _ (by omega), get_delAt, if_neg (by omega)]
                exact fun b hb => key _ _ _ _ hb
              have hfl : E.floor ≤ nx := r.st.fl
              have st2 : St X.B X.w0 E L' (ajoin w1.2.1 (heapsOf l) nx (w1.2.2 - nx) h) w1.2.2 w' := ⟨k5.m.ext hsub, fun b hb => k5.fresh b (by rw [hpe.2]; exact hb), by omega⟩
              have r2 : SR E X L' ⟨fr :: cs, ajoin w1.2.1 (heapsOf l) nx (w1.2.2 - nx) h, w1.2.2⟩ (g :: gs) w' :=
                ⟨st2, k6, r.stack.mono hle hold hnx, ⟨Lay.le_trans r.since.le hle, fun b hb => by
                  have := r.stack.base
                  rw [hold b (Nat.lt_of_lt_of_le hb this)]; exact r.since.old b hb, fun b hb => by rw [hkeep b (by omega)]; exact r.since.kept b hb⟩, r.last⟩
              have hs2 : Steps P (lone (Frame.enter P f vs .normal) (g :: gs) w) (lone (g.finish val) gs w') := k1.trans (.one (step_leave_returned k3))
              have := fnext_sound r2 hrun (v := w1.1) (by rw [← hpe.1]; exact k4) hs2
              rw [hfin] at this
              exact this
            · cases e
          · cases e
        · cases e
    · cases e
  · cases e

theorem arun_sound (H : EnvOk P E) : ∀ (n : Nat) {S S' : AState}, arun E X.G n S = some S' → ∀ {m : Machine}, Goes P E X m S → Goes P E X m S'
  | 0, S, S', e, m, g => by
    simp only [arun, Option.some.injEq] at e; subst e; exact g
  | n + 1, S, S', e, m, g => by
    obtain ⟨L, f, gs, w, hs, r⟩ := g
    have ha := (astep_sound H r).of_steps hs
    unfold arun at e
    split at e
    · rename_i S1 hS
      rw [hS] at ha
      exact arun_sound H n e ha
    · rename_i f' args S1 hS
      rw [hS] at ha
      split at e
      · rename_i S2 h2
        obtain ⟨L', g', gs', w', vs, k1, k2, k3⟩ := ha
        exact arun_sound H n e ((aiso_sound H h2 k2 k3).of_steps k1)
      · cases e
    · cases e
end
end Go.AX

namespace Go.AX
open Go Go.RowKit

/-- how far a run comes, by pieces -/
def Reach (E : Env) (G : Nat) (S S' : AState) : Prop := ∃ n, arun E G n S = some S'
theorem arun_add (E : Env) (G : Nat) : ∀ (a b : Nat) {S S' S'' : AState}, arun E G a S = some S' → arun E G b S' = some S'' → arun E G (a + b) S = some S''
  | 0, b, S, S', S'', h, k => by
    simp only [arun, Option.some.injEq] at h; subst h
    rw [Nat.zero_add]; exact k
  | a + 1, b, S, S', S'', h, k => by
    rw [show a + 1 + b = (a + b) + 1 by omega]
    unfold arun at h ⊢
    split at h
    · exact arun_add E G a b h k
    · split at h
      · exact arun_add E G a b h k
      · cases h
    · cases h
theorem Reach.trans {E : Env} {G : Nat} {S S' S'' : AState} (h : Reach E G S S') (k : Reach E G S' S'') : Reach E G S S'' := by
  obtain ⟨a, ha⟩ := h
  obtain ⟨b, hb⟩ := k
  exact ⟨a + b, arun_add E G a b ha hb⟩

/-- only some blocks are kept -/
def keepOnly (h : Heap) : List Nat → Heap → Heap
  | [], k => k
  | b :: l, k => match h.get b with
    | some o => keepOnly h l (k.set b o)
    | none => keepOnly h l k
theorem keepOnly_sub (h : Heap) : ∀ (l : List Nat) (k : Heap), (∀ b o, k.get b = some o → h.get b = some o) → ∀ b o, (keepOnly h l k).get b = some o → h.get b = some o
  | [], k, hk, b, o, e => hk b o e
  | c :: l, k, hk, b, o, e => by
    unfold keepOnly at e
    split at e
    · rename_i o' ho
      refine keepOnly_sub h l _ (fun x y hx => ?_) b o e
      rw [T.get_set] at hx
      split at hx
      · rename_i q; subst q; injection hx with hx; subst hx; exact ho
      · exact hk x y hx
    · exact keepOnly_sub h l k hk b o e

/-- a piece of a run, and what is kept of its end -/
def piece (E : Env) (G n : Nat) (l : List Nat) (S : AState) : Option AState := match arun E G n S with
  | some S' => match S' with
    | ⟨fs, h, nx⟩ => some ⟨fs, keepOnly h l .leaf, nx⟩
  | none => none

section
variable {P : Program} {E : Env} {X : Cx}
theorem Goes.less (hz : E.floor = 0) {m : Machine} {fs : List AFrame} {h h' : Heap} {nx : Nat} (g : Goes P E X m ⟨fs, h, nx⟩) (hs : ∀ b o, h'.get b = some o → h.get b = some o) : Goes P E X m ⟨fs, h', nx⟩ := by
  obtain ⟨L, f, gs, w, k, r⟩ := g
  exact ⟨L, f, gs, w, k, ⟨r.st.m.less hs, r.st.fresh, r.st.fl⟩, r.glob, r.stack, ⟨r.since.le, r.since.old, fun b hb => by rw [hz] at hb; omega⟩, r.last⟩
theorem piece_sound (H : EnvOk P E) (hz : E.floor = 0) {n : Nat} {l : List Nat} {S S' : AState} (e : piece E X.G n l S = some S') {m : Machine} (g : Goes P E X m S) : Goes P E X m S' := by
  unfold piece at e
  split at e
  · rename_i S1 h1
    obtain ⟨fs, h, nx⟩ := S1
    injection e with e; subst e
    exact (arun_sound H n h1 g).less hz (keepOnly_sub h l .leaf (fun b o hb => by rw [T.get_leaf] at hb; cases hb))
  · cases e

/-- a run's pieces, one behind the other -/
inductive Pieces (E : Env) : AState → AState → Prop where
  | refl (S : AState) : Pieces E S S
  | step {S S' S'' : AState} (n : Nat) (l : List Nat) (h : Pieces E S S') (k : piece E 0 n l S' = some S'') : Pieces E S S''
theorem Pieces.sound (H : EnvOk P E) (hz : E.floor = 0) (hG : X.G = 0) {S S' : AState} (h : Pieces E S S') {m : Machine} (g : Goes P E X m S) : Goes P E X m S' := by
  induction h with
  | refl => exact g
  | step n l _ k ih => exact piece_sound H hz (by rw [hG]; exact k) ih

/-- A CLOSED CALL: a function without parameters, run by the executor, answers so from whatever memory. -/
theorem calls_of_pieces (H : EnvOk P E) (hz : E.floor = 0) {f : FuncId} {fr : AFrame} (he : aenter E f [] false = some fr) {S : AState} (hp : Pieces E ⟨[fr], .leaf, 0⟩ S) {v : AV} {h : Heap} {nx : Nat} (hd : astep E 0 S = .done v h nx) (w : World) :
    Calls P f #[] w (fun e w' => ∃ val L, e = .returned val ∧ VR L v val ∧ Below w.heap.size w w') := by
  intro cs
  let X : Cx := ⟨0, w.heap.size, w, fun _ => none, .leaf, 0, cs, f⟩
  obtain ⟨h1, h2, h3⟩ := enter_sound (L := fun _ => none) H he (vs := #[]) rfl 0
  have hm : MR w.heap.size w (fun _ => none) .leaf w := ⟨fun b o c hb => (by rw [T.get_leaf] at hb; cases hb), fun b b' o o' c c' hb => (by rw [T.get_leaf] at hb; cases hb), fun b o c hb => (by rw [T.get_leaf] at hb; cases hb), Below.refl .., Nat.le_refl _⟩
  have r0 : SR E X (fun _ => none) ⟨[fr], .leaf, 0⟩ (Frame.enter P f #[] .normal :: cs) w :=
    ⟨⟨hm, fun _ _ => rfl, by rw [hz]; exact Nat.le_refl _⟩, fun g hg => absurd hg (Nat.not_lt_zero _), ⟨_, _, 0, rfl, Nat.le_refl _, h1, rfl, Nat.le_refl _⟩, ⟨Lay.le_refl _, fun _ _ => rfl, fun _ _ => rfl⟩, ⟨h2, h3⟩⟩
  have g0 : Goes P E X (lone (Frame.enter P f #[] .normal) cs w) ⟨[fr], .leaf, 0⟩ := ⟨_, _, _, _, .refl .., r0⟩
  obtain ⟨L, f1, gs, w1, hs, r1⟩ := hp.sound (X := X) H hz rfl g0
  have ha := (astep_sound H r1).of_steps hs
  have hd' : astep E X.G S = .done v h nx := hd
  rw [hd'] at ha
  obtain ⟨L', f2, w2, val, k1, k2, k3, k4, k5, _⟩ := ha
  exact ⟨.returned val, w2, f2, ⟨val, L', rfl, k4, k5.m.below⟩, k1, k2, k3⟩
end
end Go.AX

namespace Go.AX
open Go Go.RowKit

/-- the value that is meant, if there is but one -/
def backs (f : AV → Option Value) : List AV → Option (List Value)
  | [] => some []
  | a :: l => match f a, backs f l with
    | some v, some vs => some (v :: vs)
    | _, _ => none
def back1 : AV → Option Value
  | .bool b => some (.bool b)
  | .int k n => some (.int k n)
  | .nilp => some (.pointer none)
  | .nils => some (.slice none 0 0)
  | .nilm => some (.map none)
  | .nilf => some .nilFunc
  | .nili => some .nilIface
  | .str 0 0 => some (.string .empty)
  | _ => none
def back2 : AV → Option Value
  | .agg l => match backs back1 l with
    | some vs => some (.agg vs.toArray)
    | none => none
  | a => back1 a
def back3 : AV → Option Value
  | .tuple l => match backs back2 l with
    | some vs => some (.tuple vs.toArray)
    | none => none
  | a => back2 a
theorem backs_sound {L : Lay} {f : AV → Option Value} (hf : ∀ a u, f a = some u → ∀ v, VR L a v → v = u) : ∀ {l : List AV} {us : List Value}, backs f l = some us → ∀ vs, VRL L l vs → vs = us
  | [], us, e, vs, h => by
    simp only [backs, Option.some.injEq] at e; subst e; exact h
  | a :: l, us, e, vs, ⟨x, xs, e1, h1, h2⟩ => by
    subst e1
    unfold backs at e
    split at e
    · rename_i u us' e2 e3
      injection e with e; subst e
      rw [hf a u e2 x h1, backs_sound hf e3 xs h2]
    · cases e
theorem back1_sound {L : Lay} (a : AV) (u : Value) (e : back1 a = some u) (v : Value) (h : VR L a v) : v = u := by
  unfold back1 at e
  split at e
  case h_8 =>
    injection e with e; subst e
    obtain ⟨x, rfl, h1, _⟩ := h
    congr 1
    cases x with
    | mk d =>
      have : d.size = 0 := h1
      have : d = #[] := by simpa using this
      rw [this]; rfl
  all_goals first | (injection e with e; subst e; simp only [VR] at h; exact h) | cases e
theorem back2_sound {L : Lay} (a : AV) (u : Value) (e : back2 a = some u) (v : Value) (h : VR L a v) : v = u := by
  unfold back2 at e
  split at e
  · rename_i l
    split at e
    · rename_i vs hvs
      injection e with e; subst e
      obtain ⟨cs, rfl, h1⟩ := h
      rw [← backs_sound (back1_sound (L := L)) hvs _ h1]
    · cases e
  · exact back1_sound a u e v h
theorem back3_sound {L : Lay} (a : AV) (u : Value) (e : back3 a = some u) (v : Value) (h : VR L a v) : v = u := by
  unfold back3 at e
  split at e
  · rename_i l
    split at e
    · rename_i vs hvs
      injection e with e; subst e
      obtain ⟨cs, rfl, h1⟩ := h
      rw [← backs_sound (back2_sound (L := L)) hvs _ h1]
    · cases e
  · exact back2_sound a u e v h

section
variable {P : Program} {E : Env} {X : Cx}
/-- A CLOSED CALL: a function, run by the executor at what is known of its arguments, answers so from whatever memory. -/
theorem calls_of_run (H : EnvOk P E) (hz : E.floor = 0) {f : FuncId} {ars : List AV} {fr : AFrame} (he : aenter E f ars false = some fr) {S : AState} (hp : Pieces E ⟨[fr], .leaf, 0⟩ S) {v : AV} {h : Heap} {nx : Nat} (hd : astep E 0 S = .done v h nx)
    {u : Value} (hu : back3 v = some u) {vs : Array Value} (hvs : VRL (fun _ => none) ars vs.toList) (w : World) :
    Calls P f vs w (fun e w' => e = .returned u ∧ Below w.heap.size w w') := by
  intro cs
  let X : Cx := ⟨0, w.heap.size, w, fun _ => none, .leaf, 0, cs, f⟩
  obtain ⟨h1, h2, h3⟩ := enter_sound (L := fun _ => none) H he (vs := vs) hvs 0
  have hm : MR w.heap.size w (fun _ => none) .leaf w := ⟨fun b o c hb => (by rw [T.get_leaf] at hb; cases hb), fun b b' o o' c c' hb => (by rw [T.get_leaf] at hb; cases hb), fun b o c hb => (by rw [T.get_leaf] at hb; cases hb), Below.refl .., Nat.le_refl _⟩
  have r0 : SR E X (fun _ => none) ⟨[fr], .leaf, 0⟩ (Frame.enter P f vs .normal :: cs) w :=
    ⟨⟨hm, fun _ _ => rfl, by rw [hz]; exact Nat.le_refl _⟩, fun g hg => absurd hg (Nat.not_lt_zero _), ⟨_, _, 0, rfl, Nat.le_refl _, h1, rfl, Nat.le_refl _⟩, ⟨Lay.le_refl _, fun _ _ => rfl, fun _ _ => rfl⟩, ⟨h2, h3⟩⟩
  have g0 : Goes P E X (lone (Frame.enter P f vs .normal) cs w) ⟨[fr], .leaf, 0⟩ := ⟨_, _, _, _, .refl .., r0⟩
  obtain ⟨L, f1, gs, w1, hs, r1⟩ := hp.sound (X := X) H hz rfl g0
  have ha := (astep_sound H r1).of_steps hs
  have hd' : astep E X.G S = .done v h nx := hd
  rw [hd'] at ha
  obtain ⟨L', f2, w2, val, k1, k2, k3, k4, k5, _⟩ := ha
  have hval := back3_sound v u hu val k4
  subst hval
  exact ⟨.returned val, w2, f2, ⟨rfl, k5.m.below⟩, k1, k2, k3⟩

/-- a short call, in one piece -/
def short (E : Env) (n : Nat) (f : FuncId) (ars : List AV) : Option AV := match aenter E f ars false with
  | some fr => match arun E 0 n ⟨[fr], .leaf, 0⟩ with
    | some S => match astep E 0 S with
      | .done v _ _ => some v
      | _ => none
    | none => none
  | none => none
theorem calls_of_short (H : EnvOk P E) (hz : E.floor = 0) {f : FuncId} {ars : List AV} {n : Nat} {v : AV} (e : short E n f ars = some v) {u : Value} (hu : back3 v = some u) {vs : Array Value} (hvs : VRL (fun _ => none) ars vs.toList) (w : World) :
    Calls P f vs w (fun e w' => e = .returned u ∧ Below w.heap.size w w') := by
  unfold short at e
  split at e
  · rename_i fr hfr
    split at e
    · rename_i S hS
      split at e
      · rename_i v' h nx hd
        injection e with e; subst e
        intro cs
        let X : Cx := ⟨0, w.heap.size, w, fun _ => none, .leaf, 0, cs, f⟩
        obtain ⟨h1, h2, h3⟩ := enter_sound (L := fun _ => none) H hfr (vs := vs) hvs 0
        have hm : MR w.heap.size w (fun _ => none) .leaf w := ⟨fun b o c hb => (by rw [T.get_leaf] at hb; cases hb), fun b b' o o' c c' hb => (by rw [T.get_leaf] at hb; cases hb), fun b o c hb => (by rw [T.get_leaf] at hb; cases hb), Below.refl .., Nat.le_refl _⟩
        have r0 : SR E X (fun _ => none) ⟨[fr], .leaf, 0⟩ (Frame.enter P f vs .normal :: cs) w :=
          ⟨⟨hm, fun _ _ => rfl, by rw [hz]; exact Nat.le_refl _⟩, fun g hg => absurd hg (Nat.not_lt_zero _), ⟨_, _, 0, rfl, Nat.le_refl _, h1, rfl, Nat.le_refl _⟩, ⟨Lay.le_refl _, fun _ _ => rfl, fun _ _ => rfl⟩, ⟨h2, h3⟩⟩
        obtain ⟨L, f1, gs, w1, hs, r1⟩ := arun_sound (X := X) H n hS ⟨_, _, _, _, .refl .., r0⟩
        have ha := (astep_sound H r1).of_steps hs
        have hd' : astep E X.G S = .done v' h nx := hd
        rw [hd'] at ha
        obtain ⟨L', f2, w2, val, k1, k2, k3, k4, k5, _⟩ := ha
        have hval := back3_sound v' u hu val k4
        subst hval
        exact ⟨.returned val, w2, f2, ⟨rfl, k5.m.below⟩, k1, k2, k3⟩
      · cases e
    · cases e
  · cases e
end
end Go.AX

namespace Go.AX
open Go
/-- a function's body -/
noncomputable def bodyOf (f : Func) : Code := f.body.getD .skip
/-- a part of a code -/
def codeAt : List Nat → Code → Code
  | [], c => c
  | i :: p, c => match c with
    | .seq a b => match i with
      | 0 => codeAt p a
      | _ + 1 => codeAt p b
    | .cond _ a b => match i with
      | 0 => codeAt p a
      | _ + 1 => codeAt p b
    | .rangeFunc _ _ a b => match i with
      | 0 => codeAt p a
      | _ + 1 => codeAt p b
    | .block _ c => codeAt p c
    | .loop c => codeAt p c
    | .scope c => codeAt p c
    | c => c
/-- the operations of a region -/
def opsAt (p : List Nat) (c : Code) : Array Oper := match codeAt p c with
  | .region _ ops _ => ops
  | _ => #[]
end Go.AX

namespace Go.AX
open Go Go.RowKit

/-! ### What is known of types and functions, off the program -/
def tkOf : TypeDesc → TK
  | .bool => .bool | .int k => .int k | .float k => .float k | .string => .str | .pointer e => .ptr e | .unsafePointer => .uptr
  | .slice e => .slice e | .array n e => .array n e | .map k e => .map k e | .struct fs => .struct (fs.toList.map fun f => (f.type, f.offset))
  | .func .. => .func | .interface _ => .iface | .tuple _ => .tuple | _ => .other
def fieldsOk (P : Program) : TypeDesc → Bool
  | .struct fs => fs.toList.all fun f => (P.info? f.type).isSome
  | _ => true
def eqOf (P : Program) (t : TypeId) (c : Bool) : TypeDesc → Bool
  | .struct fs => c && (fs.toList.all (·.name != "_") && !P.stoodInHeld t)
  | _ => c
def mkTyI (P : Program) (t : TypeId) : Option TyI := match P.info? t with
  | none => none
  | some i => match P.underlying t with
    | none => none
    | some d => match i.zero with
      | none => none
      | some z => match ofValue z with
        | .top => none
        | a => match Nat.beq z.cells.size i.size && fieldsOk P d with
          | true => some ⟨tkOf d, i.size, i.bytes, a, eqOf P t i.comparable d, !P.eqGuardType P.depth t⟩
          | false => none
theorem tkOf_sound (d : TypeDesc) : TKR (tkOf d) d := by
  cases d <;> first | rfl | exact ⟨_, rfl, rfl⟩ | exact ⟨_, _, _, rfl⟩ | exact ⟨_, rfl⟩ | exact ⟨rfl, fun _ e => by cases e⟩
theorem mkTyI_sound {P : Program} {t : TypeId} {ti : TyI} (e : mkTyI P t = some ti) : TyOk P t ti := by
  unfold mkTyI at e
  split at e
  · cases e
  · rename_i i hi
    split at e
    · cases e
    · rename_i d hd
      split at e
      · cases e
      · rename_i z hz
        have main : ∀ a, ofValue z = a → a ≠ .top → (match Nat.beq z.cells.size i.size && fieldsOk P d with
          | true => some (⟨tkOf d, i.size, i.bytes, a, eqOf P t i.comparable d, !P.eqGuardType P.depth t⟩ : TyI)
          | false => none) = some ti → TyOk P t ti := by
          intro a ha hne e
          split at e
          · rename_i hc
            injection e with e; subst e
            rw [Bool.and_eq_true, beq_iff] at hc
            obtain ⟨hc1, hc2⟩ := hc
            refine ⟨⟨i, hi, rfl, rfl, fun he => ?_, z, hz, by rw [← ha]; exact ofValue_sound _ z, hne, hc1⟩, ⟨d, hd, tkOf_sound d, fun he fields hf => ?_, fun fields hf f hm => ?_⟩, fun hg => by simpa using hg⟩
            · simp only at he
              unfold eqOf at he
              split at he
              · rw [Bool.and_eq_true] at he; exact he.1
              · exact he
            · subst hf
              simp only [eqOf, Bool.and_eq_true, List.all_eq_true, Bool.not_eq_true', bne_iff_ne] at he
              exact ⟨fun f hm => he.2.1 f (by simpa using hm), he.2.2⟩
            · subst hf
              simp only [fieldsOk, List.all_eq_true] at hc2
              exact hc2 f (by simpa using hm)
          · cases e
        split at e
        · cases e
        · rename_i hne; exact main _ rfl (fun q => hne q) e

def mkFnI (P : Program) (f : FuncId) : Option FnI := match P.funcs[f]? with
  | none => none
  | some F => match F.body with
    | none => none
    | some b => match F.name == "runtime.NumGoroutine" with
      | true => none
      | false => some ⟨none, b, F.ntmps, F.results.toList⟩
theorem mkFnI_sound {P : Program} {f : FuncId} {fi : FnI} (e : mkFnI P f = some fi) : FnOk P f fi := by
  unfold mkFnI at e
  split at e
  · cases e
  · rename_i F hF
    split at e
    · cases e
    · rename_i b hb
      split at e
      · cases e
      · rename_i hn
        injection e with e; subst e
        exact ⟨F, hF, hn, hb, rfl, rfl⟩

/-- functions without a body -/
def extIn (f : FuncId) : List (FuncId × ExtK) → Option ExtK
  | [] => none
  | p :: l => match Nat.beq p.1 f with
    | true => some p.2
    | false => extIn f l
def ExtOk (P : Program) (p : FuncId × ExtK) : Prop := ∃ fn, P.funcs[p.1]? = some fn ∧ (fn.name == "runtime.NumGoroutine") = false ∧ fn.body = none ∧ (Extern.findNext fn).isNone = true ∧ ∃ e, Extern.find fn = some e ∧ extSem p.2 = some e
def fnOf (P : Program) (l : List (FuncId × ExtK)) (f : FuncId) : Option FnI := match extIn f l with
  | some k => some ⟨some k, .skip, 0, []⟩
  | none => mkFnI P f
theorem extIn_mem {f : FuncId} : ∀ {l : List (FuncId × ExtK)} {k : ExtK}, extIn f l = some k → (f, k) ∈ l
  | [], _, e => by cases e
  | p :: l, k, e => by
    unfold extIn at e
    split at e
    · rename_i q
      injection e with e
      have := beq_iff.1 q
      obtain ⟨p1, p2⟩ := p
      simp only at this e
      subst this; subst e
      exact List.mem_cons_self ..
    · exact List.mem_cons_of_mem _ (extIn_mem e)
theorem fnOf_sound {P : Program} {l : List (FuncId × ExtK)} (hl : ∀ p ∈ l, ExtOk P p) {f : FuncId} {fi : FnI} (e : fnOf P l f = some fi) : FnOk P f fi := by
  unfold fnOf at e
  split at e
  · rename_i k hk
    injection e with e; subst e
    obtain ⟨fn, h1, h2, h3, h4, h5⟩ := hl _ (extIn_mem hk)
    exact ⟨fn, h1, h2, h3, h4, h5⟩
  · exact mkFnI_sound e

/-- methods, by the type behind the interface -/
def methOk (P : Program) (t : TypeId) (name : String) (f : FuncId) : Bool := match P.info? t with
  | some i => match i.methods.find? (·.name == name) with
    | some m => m.path.isEmpty && (match m.func with
      | some (g, ptr) => Nat.beq g f && (match P.underlying t with
        | some (.pointer _) => ptr
        | some _ => !ptr
        | none => false)
      | none => false)
    | none => false
  | none => false
def methIn (t : TypeId) (name : String) : List (TypeId × String × FuncId) → Option FuncId
  | [] => none
  | p :: l => match Nat.beq p.1 t && p.2.1 == name with
    | true => some p.2.2
    | false => methIn t name l
theorem methIn_mem {t : TypeId} {name : String} : ∀ {l : List (TypeId × String × FuncId)} {f : FuncId}, methIn t name l = some f → (t, name, f) ∈ l
  | [], _, e => by cases e
  | p :: l, f, e => by
    unfold methIn at e
    split at e
    · rename_i q
      injection e with e
      simp only [Bool.and_eq_true, beq_iff, beq_iff_eq] at q
      obtain ⟨p1, p2, p3⟩ := p
      simp only at q e
      obtain ⟨rfl, rfl⟩ := q
      subst e
      exact List.mem_cons_self ..
    · exact List.mem_cons_of_mem _ (methIn_mem e)
theorem methOk_sound {P : Program} {t : TypeId} {name : String} {f : FuncId} (h : methOk P t name f = true) (v : Value) (w : World) : (method (P.types.size + Made.depth) t v name).run P w = .ok (f, v) w := by
  unfold methOk at h
  split at h
  · rename_i i hi
    split at h
    · rename_i m hm
      rw [Bool.and_eq_true] at h
      obtain ⟨h1, h2⟩ := h
      split at h2
      · rename_i g ptr hf
        rw [Bool.and_eq_true, beq_iff] at h2
        obtain ⟨rfl, h3⟩ := h2
        have hsz : P.types.size + Made.depth = (P.types.size + 99) + 1 := rfl
        have hti : (typeInfo t).run P w = .ok i w := by simp [typeInfo, hi]
        have hpath : m.path.toList = [] := by
          have : m.path = #[] := by simpa using h1
          rw [this]
        rw [hsz]
        unfold method
        simp only [Sem.run_bind, hti, Result.andThen_ok, hm, hpath, follow, Sem.run_pure, hf]
        split at h3
        · rename_i e hu
          subst h3
          have hun : (underlying t).run P w = .ok (.pointer e) w := run_underlying hu w
          simp only [receiverAt, Sem.run_bind, hun, Result.andThen_ok, Place.get, Sem.run_pure]
        · rename_i d hd hu
          have hun : (underlying t).run P w = .ok d w := run_underlying hu w
          have hp : ptr = false := by simpa using h3
          subst hp
          simp only [receiverAt, Sem.run_bind, hun, Result.andThen_ok]
          simp only [Place.get, Sem.run_pure, Result.andThen_ok]
        · cases h3
      · cases h2
    · cases h
  · cases h

/-- what the executor knows of a program -/
def envOf (P : Program) (exts : List (FuncId × ExtK)) (meths : List (TypeId × String × FuncId)) (isos : List FuncId) : Env :=
  { ty := mkTyI P, fn := fnOf P exts, meth := fun t m => methIn t m meths, iso := fun f => isos.any (Nat.beq f), floor := 0 }
theorem envOf_ok {P : Program} {exts : List (FuncId × ExtK)} {meths : List (TypeId × String × FuncId)} (isos : List FuncId) (hmix : P.follows .mixedOrders = true) (he : ∀ p ∈ exts, ExtOk P p) (hm : (meths.all fun p => methOk P p.1 p.2.1 p.2.2) = true) : EnvOk P (envOf P exts meths isos) where
  ty := fun _ _ e => mkTyI_sound e
  fn := fun _ _ e => fnOf_sound he e
  meth := fun t m f e v w => methOk_sound (List.all_eq_true.1 hm (t, m, f) (methIn_mem e)) v w
  mixed := hmix
end Go.AX

namespace Go.AX
open Go Go.RowKit

/-! ### Tables: what is known, written out -/
def T.AllP {α : Type} (p : Nat → α → Prop) : T α → Nat → Nat → Prop
  | .leaf, _, _ => True
  | .node l v r, a, b => T.AllP p l (2 * a) (a + b) ∧ (match v with | some x => p b x | none => True) ∧ T.AllP p r (2 * a) (2 * a + b)
theorem T.AllP.get {α : Type} {p : Nat → α → Prop} : ∀ {t : T α} {a b n : Nat} {x : α}, T.AllP p t a b → t.get n = some x → p (a * n + b) x
  | .leaf, _, _, n, _, _, e => by rw [T.get_leaf] at e; cases e
  | .node l v r, a, b, n, x, h, e => by
    obtain ⟨h1, h2, h3⟩ := h
    unfold T.get at e
    cases n with
    | zero =>
      simp only at e
      subst e
      simpa using h2
    | succ m =>
      simp only at e
      split at e
      · rename_i q
        have q' := beq_iff.1 q
        have := T.AllP.get h1 e
        have hm : a * (m + 1) + b = 2 * a * (m / 2) + (a + b) := by
          have : m = 2 * (m / 2) := by omega
          have h5 : 2 * a * (m / 2) = a * m := by
            rw [Nat.mul_comm 2 a, Nat.mul_assoc]; congr 1; omega
          rw [h5, Nat.mul_add]; omega
        rw [hm]; exact this
      · rename_i q
        have q' := beq_not.1 q
        have := T.AllP.get h3 e
        have hm : a * (m + 1) + b = 2 * a * (m / 2) + (2 * a + b) := by
          have h5 : 2 * a * (m / 2) + a = a * m := by
            have : m = 2 * (m / 2) + 1 := by omega
            rw [Nat.mul_comm 2 a, Nat.mul_assoc]
            conv => rhs; rw [this]
            rw [Nat.mul_add]; omega
          rw [Nat.mul_add]; omega
        rw [hm]; exact this

def T.allB {α : Type} (p : Nat → α → Bool) : T α → Nat → Nat → Bool
  | .leaf, _, _ => true
  | .node l v r, a, b => T.allB p l (2 * a) (a + b) && ((match v with | some x => p b x | none => true) && T.allB p r (2 * a) (2 * a + b))
theorem T.allB_all {α : Type} {p : Nat → α → Bool} : ∀ {t : T α} {a b : Nat}, T.allB p t a b = true → T.AllP (fun n x => p n x = true) t a b
  | .leaf, _, _, _ => trivial
  | .node l v r, a, b, h => by
    unfold T.allB at h
    rw [Bool.and_eq_true, Bool.and_eq_true] at h
    refine ⟨T.allB_all h.1, ?_, T.allB_all h.2.2⟩
    cases v with
    | none => trivial
    | some x => exact h.2.1

def natsEq : List (TypeId × Nat) → List (TypeId × Nat) → Bool
  | [], [] => true
  | a :: l, b :: k => Nat.beq a.1 b.1 && (Nat.beq a.2 b.2 && natsEq l k)
  | _, _ => false
theorem natsEq_sound : ∀ {a b : List (TypeId × Nat)}, natsEq a b = true → a = b
  | [], [], _ => rfl
  | [], _ :: _, h => by cases h
  | _ :: _, [], h => by cases h
  | ⟨_, _⟩ :: l, ⟨_, _⟩ :: k, h => by
    simp only [natsEq, Bool.and_eq_true, beq_iff] at h
    rw [h.1, h.2.1, natsEq_sound h.2.2]
def tkEq : TK → TK → Bool
  | .bool, .bool => true
  | .int j, .int k => decide (j = k)
  | .float j, .float k => decide (j = k)
  | .str, .str => true
  | .ptr a, .ptr b => Nat.beq a b
  | .uptr, .uptr => true
  | .slice a, .slice b => Nat.beq a b
  | .array n a, .array m b => Nat.beq n m && Nat.beq a b
  | .map a b, .map c d => Nat.beq a c && Nat.beq b d
  | .struct a, .struct b => natsEq a b
  | .iface, .iface => true
  | .func, .func => true
  | .tuple, .tuple => true
  | .other, .other => true
  | _, _ => false
theorem tkEq_sound {a b : TK} (h : tkEq a b = true) : a = b := by
  cases a <;> cases b <;> simp only [tkEq, reduceCtorEq, Bool.and_eq_true, beq_iff, decide_eq_true_eq] at h <;> first | rfl | (rw [h]) | (rw [h.1, h.2]) | (rw [natsEq_sound h])
def tyEq (a b : TyI) : Bool := tkEq a.k b.k && (Nat.beq a.size b.size && (Nat.beq a.bytes b.bytes && (avEq a.zero b.zero && (a.eq == b.eq && a.gfree == b.gfree))))
theorem tyEq_sound {a b : TyI} (h : tyEq a b = true) : a = b := by
  obtain ⟨a1, a2, a3, a4, a5, a6⟩ := a
  obtain ⟨b1, b2, b3, b4, b5, b6⟩ := b
  simp only [tyEq, Bool.and_eq_true, beq_iff, beq_iff_eq] at h
  rw [tkEq_sound h.1, h.2.1, h.2.2.1, avEq_sound h.2.2.2.1, h.2.2.2.2.1, h.2.2.2.2.2]
def tyChk (P : Program) (t : TypeId) (ti : TyI) : Bool := match mkTyI P t with
  | some x => tyEq x ti
  | none => false
theorem tyChk_sound {P : Program} {t : TypeId} {ti : TyI} (h : tyChk P t ti = true) : TyOk P t ti := by
  unfold tyChk at h
  split at h
  · rename_i x hx
    rw [← tyEq_sound h]
    exact mkTyI_sound hx
  · cases h

theorem fnOk_of {P : Program} {f : FuncId} {F : Func} {n : Nat} (h : P.funcs[f]? = some F) (hc : (F.name == "runtime.NumGoroutine", F.body.isSome, F.ntmps) = (false, true, n)) : FnOk P f ⟨none, bodyOf F, n, F.results.toList⟩ := by
  injection hc with h1 h2
  injection h2 with h2 h3
  refine ⟨F, h, h1, ?_, h3, rfl⟩
  unfold bodyOf
  cases hb : F.body with
  | none => rw [hb] at h2; cases h2
  | some b => rfl
theorem extOk_fn {P : Program} {f : FuncId} {k : ExtK} (h : ExtOk P (f, k)) : FnOk P f ⟨some k, .skip, 0, []⟩ := by
  obtain ⟨fn, h1, h2, h3, h4, h5⟩ := h
  exact ⟨fn, h1, h2, h3, h4, h5⟩

/-- what the executor knows, off tables -/
def envTab (ty : T TyI) (fn : T FnI) (meths : List (TypeId × String × FuncId)) (isos : List FuncId) : Env :=
  { ty := fun t => ty.get t, fn := fun f => fn.get f, meth := fun t m => methIn t m meths, iso := fun f => isos.any (Nat.beq f), floor := 0 }
theorem envTab_ok {P : Program} {ty : T TyI} {fn : T FnI} {meths : List (TypeId × String × FuncId)} (isos : List FuncId) (hmix : P.follows .mixedOrders = true) (ht : T.allB (tyChk P) ty 1 0 = true) (hf : T.AllP (FnOk P) fn 1 0)
    (hm : (meths.all fun p => methOk P p.1 p.2.1 p.2.2) = true) : EnvOk P (envTab ty fn meths isos) where
  ty := fun t ti e => by
    have := (T.allB_all ht).get e
    rw [Nat.one_mul, Nat.add_zero] at this
    exact tyChk_sound this
  fn := fun f fi e => by
    have := hf.get e
    rw [Nat.one_mul, Nat.add_zero] at this
    exact this
  meth := fun t m f e v w => methOk_sound (List.all_eq_true.1 hm (t, m, f) (methIn_mem e)) v w
  mixed := hmix
end Go.AX

