/-
  The executor: each operation that changes something is right.
  Of whatever program; no condition.
-/
import Derived.Test.YtgeanfninogjlaaGreatDoorAxB
import Derived.Laws.Append
set_option linter.unusedVariables false
set_option linter.unusedSimpArgs false
set_option linter.unusedSectionVars false
namespace Go.AX
open Go Go.RowKit

/-- memory, with the next number -/
structure St (B : Nat) (w0 : World) (E : Env) (L : Lay) (h : Heap) (nx : Nat) (w : World) : Prop where
  m : MR B w0 L h w
  fresh : ∀ b, nx ≤ b → L b = none
  fl : E.floor ≤ nx
structure Grow (E : Env) (L : Lay) (h : Heap) (nx : Nat) (M : Lay) (h' : Heap) (nx' : Nat) : Prop where
  le : L.le M
  nle : nx ≤ nx'
  kept : ∀ b, b < E.floor → h'.get b = h.get b
  old : ∀ b, b < nx → M b = L b

theorem Grow.refl (E : Env) (L : Lay) (h : Heap) (nx : Nat) : Grow E L h nx L h nx := ⟨Lay.le_refl L, Nat.le_refl _, fun _ _ => rfl, fun _ _ => rfl⟩
theorem Grow.trans {E : Env} {L M N : Lay} {h h' h'' : Heap} {n n' n'' : Nat} (a : Grow E L h n M h' n') (b : Grow E M h' n' N h'' n'') : Grow E L h n N h'' n'' :=
  ⟨Lay.le_trans a.le b.le, Nat.le_trans a.nle b.nle, fun x hx => (b.kept x hx).trans (a.kept x hx), fun x hx => (b.old x (Nat.lt_of_lt_of_le hx a.nle)).trans (a.old x hx)⟩

/-- what an operation that goes on comes to -/
def Done (P : Program) (B : Nat) (w0 : World) (E : Env) (s : Sem Next) (L : Lay) (h : Heap) (nx : Nat) (w : World) (v : AV) (h' : Heap) (nx' : Nat) : Prop :=
  ∃ nxt val w' M, s.run P w = .ok nxt w' ∧ (nxt = .value val ∨ nxt = .skip ∧ val = undef) ∧ St B w0 E M h' nx' w' ∧ Grow E L h nx M h' nx' ∧ VR M v val

section
variable {P : Program} {E : Env} {B : Nat} {w0 : World} {L : Lay} {h : Heap} {nx : Nat} {w : World}

/-- the value of an operation -/
theorem Done.value {s : Sem Value} {v : AV} {h' : Heap} {nx' : Nat} {val : Value} {w' : World} {M : Lay} (h1 : s.run P w = .ok val w') (h2 : St B w0 E M h' nx' w') (h3 : Grow E L h nx M h' nx') (h4 : VR M v val) :
    Done P B w0 E (do pure (.value (← s))) L h nx w v h' nx' := ⟨.value val, val, w', M, by simp [h1], .inl rfl, h2, h3, h4⟩
theorem VR.unit {L : Lay} : VR L (.tuple []) undef := ⟨#[], rfl, rfl⟩
theorem Done.skip {s : Sem Unit} {h' : Heap} {nx' : Nat} {w' : World} {M : Lay} (h1 : s.run P w = .ok () w') (h2 : St B w0 E M h' nx' w') (h3 : Grow E L h nx M h' nx') :
    Done P B w0 E (do s; pure .skip) L h nx w (.tuple []) h' nx' := ⟨.skip, undef, w', M, by simp [h1], .inr ⟨rfl, rfl⟩, h2, h3, VR.unit⟩

theorem hset_some {b : Nat} {o : AObj} {h' : Heap} (e : hset E h b o = some h') : E.floor ≤ b ∧ h' = h.set b o := by
  unfold hset at e
  split at e
  · cases e
  · rename_i q
    injection e with e
    exact ⟨by have := blt_not.1 q; omega, e.symm⟩
theorem kept_set {b : Nat} {o : AObj} (hb : E.floor ≤ b) : ∀ x, x < E.floor → (h.set b o).get x = h.get x := fun x hx => by
  rw [T.get_set, if_neg (by omega)]
theorem kept_del {b : Nat} (hb : E.floor ≤ b) : ∀ x, x < E.floor → (h.del b).get x = h.get x := fun x hx => by
  rw [T.get_del, if_neg (by omega)]
theorem put_val {v v' : AV} {b : Nat} {o : AObj} {h' : Heap} {nx' : Nat} (e : put E h nx v b o = .val v' h' nx') : E.floor ≤ b ∧ h' = h.set b o ∧ v' = v ∧ nx' = nx := by
  unfold put at e
  split at e
  · rename_i q
    injection e with e1 e2 e3
    obtain ⟨h1, h2⟩ := hset_some q
    exact ⟨h1, by rw [← e2, h2], e1.symm, e3.symm⟩
  · cases e

theorem St.live (s : St B w0 E L h nx w) {b : Nat} {o : AObj} (hb : h.get b = some o) {c : Loc} (hc : L b = some c) : b < nx := by
  rcases Nat.lt_or_ge b nx with q | q
  · exact q
  · rw [s.fresh b q] at hc; cases hc

/-- the same memory, otherwise known -/
theorem St.set (s : St B w0 E L h nx w) {b : Nat} {o : AObj} {w' : World} (m : MR B w0 L (h.set b o) w') : St B w0 E L (h.set b o) nx w' := ⟨m, s.fresh, s.fl⟩

/-! #### Stores -/
theorem astore_sound (s : St B w0 E L h nx w) {b off : Nat} {vs : List AV} {h' : Heap} (e : astore E h b off vs = some h') {c : Loc} (hc : L b = some c) {xs : List Value} (hv : VRL L vs xs) :
    w.there c.blk (c.off + off) xs.length ∧ (∀ x ∈ xs, x.oneCell' = true) ∧ St B w0 E L h' nx (w.setCells c.blk (c.off + off) xs) ∧ Grow E L h nx L h' nx := by
  unfold astore at e
  split at e
  · rename_i l ex el fz ro hb
    split at e
    · rename_i hok
      simp only [Bool.and_eq_true, Bool.not_eq_true', blt_iff] at hok
      obtain ⟨⟨q1, q2⟩, q3⟩ := hok
      subst q1
      split at e
      · rename_i l' hl
        obtain ⟨k1, rfl⟩ := hset_some e
        obtain ⟨g1, g2⟩ := s.m.store hb hc q2 hv hl
        exact ⟨g1, hv.one q3, s.set g2, Lay.le_refl L, Nat.le_refl _, kept_set k1, fun _ _ => rfl⟩
      · cases e
    · cases e
  · cases e

theorem run_store_there {b o : Nat} {xs : List Value} (ht : w.there b o xs.length) (h1 : ∀ x ∈ xs, x.oneCell' = true) : (storeCells ⟨b, o, none⟩ xs).run P w = .ok () (w.setCells b o xs) := by
  have := run_storeCells_cells (P := P) b o xs 0 w (fun j hj => by simpa using (ht j hj).1) (fun j hj => by simpa using (ht j hj).2) h1
  simpa using this

variable (H : EnvOk P E)
include H
theorem oStore_sound (s : St B w0 E L h nx w) {t : TypeId} {a v r : AV} {h' : Heap} {nx' : Nat} (e : oStore E t a v h nx = .val r h' nx') {x y : Value} (ha : VR L a x) (hv : VR L v y) :
    Done P B w0 E (do Instr.storeAt t x y; pure .skip) L h nx w r h' nx' := by
  unfold oStore at e
  split at e
  · rename_i b off
    have go : v ≠ .top → oStoreAt E t b off v h nx = .val r h' nx' → Done P B w0 E (do Instr.storeAt t x y; pure .skip) L h nx w r h' nx' := by
      intro hne e
      unfold oStoreAt at e
      split at e
      · rename_i ti hti
        split at e
        · rename_i hsz
          have hsz' := beq_iff.1 hsz
          split at e
          · rename_i h2 hst
            injection e with e1 e2 e3; subst e1; subst e2; subst e3
            obtain ⟨c, hc, rfl⟩ := ha
            have hcl := hv.cells hne
            obtain ⟨g1, g2, g3, g4⟩ := astore_sound s hst hc hcl
            have hl := hcl.length
            refine Done.skip (w' := w.setCells c.blk (c.off + off) y.cells.toList) ?_ g3 g4
            have hs : y.cells.size = ti.size := by rw [← hsz', hl]; simp
            simp only [Instr.storeAt, Instr.sureAddr, Sem.run_bind, Sem.run_pure, Result.andThen_ok, storeVar, H.size hti]
            rw [if_neg (by simp [hs])]
            simp only [run_store_there g1 g2]
          · cases e
        · cases e
      · cases e
    split at e
    · cases e
    · rename_i hne
      exact go (fun q => hne q) e
  · cases e

omit H in
theorem sliceCells_run (m : MR B w0 L h w) {a : AV} {esz n : Nat} {cs : List AV} (e : sliceCells h a esz n = some cs) {x : Value} (ha : VR L a x) :
    ∃ vs : List Value, VRL L cs vs ∧ (Builtin.firstCells esz n x).run P w = .ok vs.toArray w := by
  rcases firstN_sound m e ha with ⟨rfl, rfl, rfl⟩ | ⟨len, s, rfl⟩ | ⟨c, b, o, len, cap, ex, ad, cp, l', ex', el', fz, ro, rfl, hle, hc, rfl, hlen, hadr, hg, hcut⟩
  · simp only [VR] at ha; subst ha
    exact ⟨[], rfl, by simp [Builtin.firstCells]⟩
  · simp only [sliceCells] at e
    split at e
    · rename_i hb
      simp only [Bool.and_eq_true, ble_iff, beq_iff] at hb
      obtain ⟨q1, rfl⟩ := hb
      obtain ⟨sx, rfl, h1, h2⟩ := ha
      subst h1; subst h2
      obtain ⟨k1, k2⟩ := (byteCells_sound (L := L) sx).take e
      refine ⟨_, k2, ?_⟩
      simp only [Builtin.firstCells, Sem.run_pure]
      congr 1
      apply Array.ext'
      simp [ByteArray.data_extract]
    · cases e
  · obtain ⟨vs, h1, h2, h3, h4⟩ := firstN_run (P := P) m hc hle hlen hadr hg hcut
    exact ⟨vs, h2, by simpa [Builtin.firstCells] using h4⟩

omit H in
theorem lenOf_run {a : AV} {n : Nat} (e : lenOf a = some n) {x : Value} (ha : VR L a x) : (Builtin.lenOf x).run P w = .ok n w := by
  unfold lenOf at e
  split at e
  · injection e with e; subst e; simp only [VR] at ha; subst ha; rfl
  · injection e with e; subst e; obtain ⟨c, a, cp, _, rfl, _⟩ := ha; rfl
  · injection e with e; subst e; obtain ⟨s, rfl, h1, h2⟩ := ha; subst h1; rfl
  · cases e

theorem acopy_sound (s : St B w0 E L h nx w) {t : TypeId} {ts : List TypeId} {d a r : AV} {h' : Heap} {nx' : Nat} (e : acopy E t d a h nx = .val r h' nx') {x y : Value} (hd : VR L d x) (ha : VR L a y) (ty : TypeId) :
    Done P B w0 E (do pure (.value (← Builtin.copy_ (t :: ts).toArray ty #[x, y]))) L h nx w r h' nx' := by
  unfold acopy at e
  split at e
  · rename_i el htk
    obtain ⟨dd, hdd, hk⟩ := H.tk htk
    simp only [TKR] at hk; subst hk
    split at e
    · rename_i ei hei
      split at e
      · rename_i dl sl hdl hsl
        split at e
        · rename_i cs hcs
          split at e
          · rename_i b off len cap sz ex
            split at e
            · rename_i h2 hst
              injection e with e1 e2 e3; subst e1; subst e2; subst e3
              simp only [lenOf] at hdl
              injection hdl with hdl; subst hdl
              obtain ⟨vs, k1, k2⟩ := sliceCells_run (P := P) s.m hcs ha
              obtain ⟨c, ad, cp, hc, rfl, hadr, hlen, hcap, hex, hne⟩ := hd
              obtain ⟨g1, g2, g3, g4⟩ := astore_sound s hst hc k1
              have hstore : (storeCells ad vs).run P w = .ok () (w.setCells c.blk (c.off + off) vs) := by
                rcases hadr with q | q
                · have h0 : min sl len = 0 := by omega
                  rw [h0] at hcs
                  have : cs = [] := by
                    have := k1.length
                    have hl : cs.length = 0 := by
                      unfold sliceCells at hcs
                      split at hcs
                      · split at hcs
                        · injection hcs with hcs; subst hcs; rfl
                        · cases hcs
                      · split at hcs
                        · split at hcs
                          · have := lcut_length hcs; simpa using this
                          · cases hcs
                        · cases hcs
                      · split at hcs
                        · have := ltake_length hcs; simpa using this
                        · cases hcs
                      · cases hcs
                    simpa using hl
                  subst this
                  cases k1
                  rfl
                · subst q; exact run_store_there g1 g2
              rw [mkInt_eq]
              refine Done.value (val := goInt ((min sl len : Nat) : Int)) ?_ g3 g4 rfl
              have hmin : Nat.min sl len = min sl len := rfl
              simp [Builtin.copy_, hdd w, lenOf_run (P := P) (w := w) hsl ha, hmin, H.size hei, k2, hstore]
            · cases e
          · cases e
        · cases e
      · cases e
    · cases e
  · cases e

theorem clear_sound (s : St B w0 E L h nx w) {t el : TypeId} {ts : List TypeId} {b off n cap sz : Nat} {ex : Bool} {ei : TyI} (htk : tk E t = some (.slice el)) (hei : E.ty el = some ei) (hsz : ei.size = sz) {h' : Heap} (hst : astore E h b off (arep ei.zero.cells n) = some h')
    {x : Value} (hx : VR L (.slice b off n cap sz ex) x) (ty : TypeId) : Done P B w0 E (do pure (.value (← Builtin.clear_ (t :: ts).toArray ty #[x]))) L h nx w (.tuple []) h' nx := by
  obtain ⟨dd, hdd, hk⟩ := H.tk htk
  simp only [TKR] at hk; subst hk
  obtain ⟨z, hz, hzr, hznt, hzs⟩ := H.zero hei
  obtain ⟨c, ad, cp, hc, rfl, hadr, hlen, hcap, hex, hne⟩ := hx
  have hzc := (hzr L).cells hznt
  have hrow := arep_sound hzc n
  obtain ⟨g1, g2, g3, g4⟩ := astore_sound s hst hc hrow
  refine Done.value (val := .tuple #[]) ?_ g3 g4 VR.unit
  rcases Nat.eq_zero_or_pos n with q | q
  · subst q
    simp [Builtin.clear_, hdd w, World.setCells]
  · have had : ad = ⟨c.blk, c.off + off, none⟩ := by rcases hadr with q2 | q2; · omega
                                                     · exact q2
    subst had
    obtain ⟨n, rfl⟩ : ∃ k, n = k + 1 := ⟨n - 1, by omega⟩
    have hzeros : (Builtin.zeroCells z.cells (n + 1)).toList = (List.replicate (n + 1) z.cells.toList).flatten := range_rep _ _
    have := run_store_there (P := P) g1 g2
    simp [Builtin.clear_, hdd w, hz w, hzeros, this]
end
end Go.AX

namespace Go.AX
open Go Go.RowKit

section
variable {L : Lay}
theorem ER.modify {f : AV × AV × Nat → AV × AV × Nat} {g : MapEntry → MapEntry}
    (hfg : ∀ (e : AV × AV × Nat) (x : MapEntry), VR L e.1 x.key → VR L e.2.1 x.val → e.2.2 = x.born → VR L (f e).1 (g x).key ∧ VR L (f e).2.1 (g x).val ∧ (f e).2.2 = (g x).born) :
    ∀ {es : List (AV × AV × Nat)} {l : List MapEntry} (j : Nat), ER L es l → ER L (amodify es j f) (l.modify j g)
  | [], _, j, h => by cases h; cases j <;> rfl
  | e :: es, _, 0, ⟨x, xs, e1, h1, h2, h3, h4⟩ => by
    subst e1
    obtain ⟨k1, k2, k3⟩ := hfg e x h1 h2 h3
    exact ⟨g x, xs, by simp, k1, k2, k3, h4⟩
  | e :: es, _, j + 1, ⟨x, xs, e1, h1, h2, h3, h4⟩ => by
    subst e1
    exact ⟨x, xs.modify j g, by simp, h1, h2, h3, ER.modify hfg j h4⟩
/-- only the one at j turns -/
theorem ER.modifyAt {f : AV × AV × Nat → AV × AV × Nat} {g : MapEntry → MapEntry} :
    ∀ {es : List (AV × AV × Nat)} {l : List MapEntry} (j : Nat), ER L es l →
    (∀ (e : AV × AV × Nat) (x : MapEntry), es[j]? = some e → l[j]? = some x → VR L e.1 x.key → VR L e.2.1 x.val → e.2.2 = x.born → VR L (f e).1 (g x).key ∧ VR L (f e).2.1 (g x).val ∧ (f e).2.2 = (g x).born) → ER L (amodify es j f) (l.modify j g)
  | [], _, j, h, _ => by cases h; cases j <;> rfl
  | e :: es, _, 0, ⟨x, xs, e1, h1, h2, h3, h4⟩, hfg => by
    subst e1
    obtain ⟨k1, k2, k3⟩ := hfg e x rfl rfl h1 h2 h3
    exact ⟨g x, xs, by simp, k1, k2, k3, h4⟩
  | e :: es, _, j + 1, ⟨x, xs, e1, h1, h2, h3, h4⟩, hfg => by
    subst e1
    exact ⟨x, xs.modify j g, by simp, h1, h2, h3, ER.modifyAt j h4 fun e x q1 q2 => hfg e x (by simpa using q1) (by simpa using q2)⟩
theorem ER.snoc : ∀ {es : List (AV × AV × Nat)} {l : List MapEntry} {e : AV × AV × Nat} {x : MapEntry}, ER L es l → VR L e.1 x.key → VR L e.2.1 x.val → e.2.2 = x.born → ER L (es ++ [e]) (l ++ [x])
  | [], _, e, x, h, h1, h2, h3 => by cases h; exact ⟨x, [], rfl, h1, h2, h3, rfl⟩
  | _ :: _, _, e, x, ⟨y, ys, e1, k1, k2, k3, k4⟩, h1, h2, h3 => by subst e1; exact ⟨y, _, rfl, k1, k2, k3, k4.snoc h1 h2 h3⟩
theorem ER.erase : ∀ {es : List (AV × AV × Nat)} {l : List MapEntry} (j : Nat), ER L es l → ER L (aerase es j) (l.eraseIdx j)
  | [], _, j, h => by cases h; cases j <;> rfl
  | _ :: _, _, 0, ⟨y, ys, e1, k1, k2, k3, k4⟩ => by subst e1; exact k4
  | _ :: _, _, j + 1, ⟨y, ys, e1, k1, k2, k3, k4⟩ => by subst e1; exact ⟨y, _, rfl, k1, k2, k3, ER.erase j k4⟩
theorem toList_modify (a : Array MapEntry) (j : Nat) (g : MapEntry → MapEntry) : (a.modify j g).toList = a.toList.modify j g := by simp
theorem toList_erase (a : Array MapEntry) (j : Nat) : (a.eraseIdxIfInBounds j).toList = a.toList.eraseIdx j := by
  unfold Array.eraseIdxIfInBounds
  split
  · simp
  · rename_i h
    rw [List.eraseIdx_of_length_le (by simpa using h)]
end

section
variable {P : Program} {E : Env} {B : Nat} {w0 : World} {L : Lay} {h : Heap} {nx : Nat} {w : World}

theorem below_setObj {r : Nat} (hr : B ≤ r) (o : Obj) : Below B w { w with heap := w.heap.setIfInBounds r o } :=
  ⟨rfl, rfl, rfl, by simp, fun k hk => by simp [Array.getElem?_setIfInBounds]; omega⟩
theorem setObj_at {r : Nat} {o o2 : Obj} (hr : w.heap[r]? = some o) : (w.heap.setIfInBounds r o2)[r]? = some o2 := by
  have := (Array.getElem?_eq_some_iff.1 hr).1
  simp [this]
theorem setObj_other {r k : Nat} (o2 : Obj) (h : k ≠ r) : (w.heap.setIfInBounds r o2)[k]? = w.heap[k]? := by
  simp [Array.getElem?_setIfInBounds, Ne.symm h]

/-- a map turns -/
theorem St.turnObj (s : St B w0 E L h nx w) {b : Nat} {o o2 : AObj} {ob ob2 : Obj} {c : Loc} (hb : h.get b = some o) (hro : o.ro = false) (hc : L b = some c) (hcells : ∀ x y z, ob ≠ .cells x y z) (hob : w.heap[c.blk]? = some ob)
    (ho : OR L c o2 ob2) (hf : E.floor ≤ b) :
    (setObj c.blk ob2).run P w = .ok () { w with heap := w.heap.setIfInBounds c.blk ob2 } ∧ St B w0 E L (h.set b o2) nx { w with heap := w.heap.setIfInBounds c.blk ob2 } ∧ Grow E L h nx L (h.set b o2) nx := by
  have hB : B ≤ c.blk := (s.m.own b _ c hb hc).resolve_left (by simp [hro])
  refine ⟨?_, ?_, Lay.le_refl L, Nat.le_refl _, kept_set hf, fun _ _ => rfl⟩
  · simp only [setObj, Sem.run, hob]
  · exact s.set (s.m.turn hb hc hro (below_setObj hB _) (fun k hk => setObj_other _ hk) (setObj_at hob) ho)

theorem keyStays {u v : Value} (h : Instr.sameBits 10000 u v = true) : (Instr.keyThatStays u v).run P w = .ok v w := by
  simp [Instr.keyThatStays, h]

variable (H : EnvOk P E)
include H

theorem amapSet_sound (s : St B w0 E L h nx w) {t : TypeId} {a k v r : AV} {h' : Heap} {nx' : Nat} (e : amapSet E t a k v h nx = .val r h' nx') {x u y : Value} (ha : VR L a x) (hk : VR L k u) (hv : VR L v y) :
    Done P B w0 E (do Instr.mapUpdate t x u y; pure .skip) L h nx w r h' nx' := by
  unfold amapSet at e
  split at e
  · rename_i kt et htk
    obtain ⟨d, hd, hkr⟩ := H.tk htk
    simp only [TKR] at hkr; subst hkr
    split at e
    · rename_i b
      split at e
      · rename_i es clock hb
        split at e
        · rename_i hok
          obtain ⟨c, hc, rfl⟩ := ha
          obtain ⟨o', ho, arr, rfl, her⟩ := s.m.obj _ _ c hb hc
          split at e
          · rename_i r0 hr0
            obtain ⟨q1, rfl, rfl, rfl⟩ := put_val e
            obtain ⟨hck, q, hq, hf⟩ := findKey_sound H s.m hok hk hr0 her
            rcases hf with ⟨h0, _⟩ | ⟨j, en, v0, e1, e2, e3, e4, e5⟩
            · cases h0
            · injection e1 with e1
              subst e1; subst e5
              have e2' : arr[j]? = some en := by simpa using e2
              have hj : 0 + j = j := by omega
              rw [hj] at hq ⊢
              obtain ⟨g1, g2, g3⟩ := s.turnObj (P := P) (ob2 := .map (arr.modify j fun e => { e with key := u, val := y }) clock) (o2 := .map (amodify es j fun e => (k, v, e.2.2)) clock) hb rfl hc (by simp) ho
                ⟨_, rfl, by rw [toList_modify]; refine her.modify ?_ j; intro e x _ _ h3; exact ⟨hk, hv, h3⟩⟩ q1
              refine Done.skip ?_ g2 g3
              simp [Instr.mapUpdate, hd w, getMap ho, hck, hq, e2', keyStays e4, g1]
          · rename_i hr0
            obtain ⟨q1, rfl, rfl, rfl⟩ := put_val e
            obtain ⟨hck, q, hq, hf⟩ := findKey_sound H s.m hok hk hr0 her
            have hq0 : q = none := by
              rcases hf with ⟨_, h⟩ | ⟨j, _, _, h, _⟩
              · exact h
              · cases h
            subst hq0
            obtain ⟨g1, g2, g3⟩ := s.turnObj (P := P) (ob2 := .map (arr.push { key := u, val := y, born := clock }) (clock + 1)) (o2 := .map (es ++ [(k, v, clock)]) (clock + 1)) hb rfl hc (by simp) ho
              ⟨_, rfl, by rw [Array.toList_push]; exact her.snoc hk hv rfl⟩ q1
            refine Done.skip ?_ g2 g3
            simp [Instr.mapUpdate, hd w, getMap ho, hck, hq, g1]
          · cases e
        · cases e
      · cases e
    · cases e
  · cases e

theorem amapEntry_sound (s : St B w0 E L h nx w) {t : TypeId} {a k r : AV} {h' : Heap} {nx' : Nat} (e : amapEntry E t a k h nx = .val r h' nx') {x u : Value} (ha : VR L a x) (hk : VR L k u) :
    Done P B w0 E (do pure (.value (← Instr.mapEntry t x u))) L h nx w r h' nx' := by
  unfold amapEntry at e
  split at e
  · rename_i kt et htk
    obtain ⟨d, hd, hkr⟩ := H.tk htk
    simp only [TKR] at hkr; subst hkr
    split at e
    · rename_i b
      split at e
      · rename_i es clock hb
        split at e
        · rename_i hok
          obtain ⟨c, hc, rfl⟩ := ha
          obtain ⟨o', ho, arr, rfl, her⟩ := s.m.obj _ _ c hb hc
          split at e
          · rename_i r0 hr0
            obtain ⟨q1, rfl, rfl, rfl⟩ := put_val e
            obtain ⟨hck, q, hq, hf⟩ := findKey_sound H s.m hok hk hr0 her
            rcases hf with ⟨h0, _⟩ | ⟨j, en, v0, e1, e2, e3, e4, e5⟩
            · cases h0
            · injection e1 with e1
              subst e1; subst e5
              have e2' : arr[j]? = some en := by simpa using e2
              have hj : 0 + j = j := by omega
              rw [hj] at hq ⊢
              obtain ⟨g1, g2, g3⟩ := s.turnObj (P := P) (ob2 := .map (arr.modify j fun e => { e with key := u }) clock) (o2 := .map (amodify es j fun e => (k, e.2)) clock) hb rfl hc (by simp) ho
                ⟨_, rfl, by rw [toList_modify]; refine her.modify ?_ j; intro e x _ h2 h3; exact ⟨hk, h2, h3⟩⟩ q1
              refine Done.value (val := .tuple #[en.val, goInt en.born]) ?_ g2 g3 ⟨_, rfl, _, _, rfl, e3, _, _, rfl, ?_, rfl⟩
              · simp [Instr.mapEntry, hd w, getMap ho, hck, hq, e2', keyStays e4, g1]
              · rw [mkInt_eq]; rfl
          · rename_i hr0
            obtain ⟨hck, q, hq, hf⟩ := findKey_sound H s.m hok hk hr0 her
            have hq0 : q = none := by
              rcases hf with ⟨_, h⟩ | ⟨j, _, _, h, _⟩
              · exact h
              · cases h
            subst hq0
            split at e
            · rename_i ei hei
              obtain ⟨z, hz, hzr, _⟩ := H.zero hei
              obtain ⟨q1, rfl, rfl, rfl⟩ := put_val e
              obtain ⟨g1, g2, g3⟩ := s.turnObj (P := P) (ob2 := .map (arr.push { key := u, val := z, born := clock }) (clock + 1)) (o2 := .map (es ++ [(k, ei.zero, clock)]) (clock + 1)) hb rfl hc (by simp) ho
                ⟨_, rfl, by rw [Array.toList_push]; exact her.snoc hk (hzr L) rfl⟩ q1
              refine Done.value (val := .tuple #[z, goInt clock]) ?_ g2 g3 ⟨_, rfl, _, _, rfl, hzr L, _, _, rfl, ?_, rfl⟩
              · simp [Instr.mapEntry, hd w, getMap ho, hck, hq, hz w, g1]
              · rw [mkInt_eq]; rfl
            · cases e
          · cases e
        · cases e
      · cases e
    · cases e
  · cases e

omit H in
theorem findBorn_sound {n : Int} : ∀ {es : List (AV × AV × Nat)} {l : List MapEntry} {i r : Nat}, findBorn es n i = some r → ER L es l → ∃ j, r = i + j ∧ l.findIdx? (fun e => (e.born : Int) == n) = some j
  | [], _, i, r, e, _ => by simp [findBorn] at e
  | y :: es, _, i, r, e, ⟨x, xs, e1, h1, h2, h3, h4⟩ => by
    subst e1
    simp only [findBorn] at e
    split at e
    · rename_i hq
      injection e with e; subst e
      refine ⟨0, rfl, ?_⟩
      have : ((x.born : Int) == n) = true := by simpa [← h3] using hq
      simp [List.findIdx?_cons, this]
    · rename_i hq
      obtain ⟨j, k1, k2⟩ := findBorn_sound e h4
      have : ((x.born : Int) == n) = false := by simpa [← h3] using hq
      exact ⟨j + 1, by omega, by simp [List.findIdx?_cons, this, k2]⟩

omit H in
theorem aentryStore_sound (s : St B w0 E L h nx w) {t : TypeId} {a k v r : AV} {h' : Heap} {nx' : Nat} (e : aentryStore E a k v h nx = .val r h' nx') {x u y : Value} (ha : VR L a x) (hk : VR L k u) (hv : VR L v y) :
    Done P B w0 E (do Instr.entryStore t x u y; pure .skip) L h nx w r h' nx' := by
  unfold aentryStore at e
  split at e
  · split at e
    · rename_i kk n
      split at e
      · rename_i es clock hb
        split at e
        · rename_i i hi
          obtain ⟨q1, rfl, rfl, rfl⟩ := put_val e
          obtain ⟨c, hc, rfl⟩ := ha
          simp only [VR] at hk; subst hk
          obtain ⟨o', ho, arr, rfl, her⟩ := s.m.obj _ _ c hb hc
          obtain ⟨j, hj, hf⟩ := findBorn_sound hi her
          have hj' : i = j := by omega
          subst hj'
          have hf' : arr.findIdx? (fun e => (e.born : Int) == n) = some i := by first | (rw [← Array.findIdx?_toList]; exact hf) | (have := hf; simpa using this) | (cases arr; simpa using hf)
          obtain ⟨g1, g2, g3⟩ := s.turnObj (P := P) (ob2 := .map (arr.modify i fun e => { e with val := y }) clock) (o2 := .map (amodify es i fun e => (e.1, v, e.2.2)) clock) hb rfl hc (by simp) ho
            ⟨_, rfl, by rw [toList_modify]; refine her.modify ?_ i; intro e x h1 _ h3; exact ⟨h1, hv, h3⟩⟩ q1
          refine Done.skip ?_ g2 g3
          simp [Instr.entryStore, getMap ho, asInt, asIntOf, hf', g1]
        · cases e
      · cases e
    · cases e
  · cases e

theorem adelete_sound (s : St B w0 E L h nx w) {t : TypeId} {ts : List TypeId} {a k r : AV} {h' : Heap} {nx' : Nat} (e : adelete E t a k h nx = .val r h' nx') {x u : Value} (ha : VR L a x) (hk : VR L k u) (ty : TypeId) :
    Done P B w0 E (do pure (.value (← Builtin.delete_ (t :: ts).toArray ty #[x, u]))) L h nx w r h' nx' := by
  unfold adelete at e
  split at e
  · rename_i kt et htk
    obtain ⟨d, hd, hkr⟩ := H.tk htk
    simp only [TKR] at hkr; subst hkr
    split at e
    · rename_i hok
      split at e
      · rename_i b
        split at e
        · rename_i es clock hb
          obtain ⟨c, hc, rfl⟩ := ha
          obtain ⟨o', ho, arr, rfl, her⟩ := s.m.obj _ _ c hb hc
          split at e
          · rename_i r0 hr0
            obtain ⟨q1, rfl, rfl, rfl⟩ := put_val e
            obtain ⟨hck, q, hq, hf⟩ := findKey_sound H s.m hok hk hr0 her
            rcases hf with ⟨h0, _⟩ | ⟨j, en, v0, e1, e2, e3, e4, e5⟩
            · cases h0
            · injection e1 with e1
              subst e1; subst e5
              have hj : 0 + j = j := by omega
              rw [hj] at hq ⊢
              obtain ⟨g1, g2, g3⟩ := s.turnObj (P := P) (ob2 := .map (arr.eraseIdxIfInBounds j) clock) (o2 := .map (aerase es j) clock) hb rfl hc (by simp) ho
                ⟨_, rfl, by rw [toList_erase]; exact her.erase j⟩ q1
              refine Done.value (val := .tuple #[]) ?_ g2 g3 VR.unit
              simp [Builtin.delete_, hd w, getMap ho, hck, hq, g1]
          · rename_i hr0
            injection e with e1 e2 e3; subst e1; subst e2; subst e3
            obtain ⟨hck, q, hq, hf⟩ := findKey_sound H s.m hok hk hr0 her
            have hq0 : q = none := by
              rcases hf with ⟨_, h⟩ | ⟨j, _, _, h, _⟩
              · exact h
              · cases h
            subst hq0
            have hsame : { w with heap := w.heap.setIfInBounds c.blk (.map arr clock) } = w := by
              have : w.heap.setIfInBounds c.blk (.map arr clock) = w.heap := by
                apply Array.ext_getElem?
                intro i
                by_cases hi : i = c.blk
                · subst hi; rw [setObj_at ho, ho]
                · rw [setObj_other _ hi]
              rw [this]
            have hset : (setObj c.blk (.map arr clock)).run P w = .ok () w := by
              simp only [setObj, Sem.run, ho]
              rw [hsame]
            refine Done.value (val := .tuple #[]) (w' := w) ?_ s (Grow.refl ..) VR.unit
            simp [Builtin.delete_, hd w, getMap ho, hck, hq, hset]
          · cases e
        · cases e
      · cases e
    · cases e
  · cases e
end
end Go.AX

namespace Go.AX
open Go Go.RowKit

section
variable {P : Program} {E : Env} {B : Nat} {w0 : World} {L : Lay} {h : Heap} {nx : Nat} {w : World}

theorem cell_heap {w w' : World} (h : w'.heap = w.heap) (a : Addr) : w'.cell? a = w.cell? a := by simp [World.cell?, h]

theorem sliceCells_run' (m : MR B w0 L h w) {a : AV} {esz n : Nat} {cs : List AV} (e : sliceCells h a esz n = some cs) {x : Value} (ha : VR L a x) :
    ∃ vs : List Value, VRL L cs vs ∧ ∀ w', w'.heap = w.heap → (Builtin.firstCells esz n x).run P w' = .ok vs.toArray w' := by
  rcases firstN_sound m e ha with ⟨rfl, rfl, rfl⟩ | ⟨len, s, rfl⟩ | ⟨c, b, o, len, cap, ex, ad, cp, l', ex', el', fz, ro, rfl, hle, hc, rfl, hlen, hadr, hg, hcut⟩
  · simp only [VR] at ha; subst ha
    exact ⟨[], rfl, fun w' _ => by simp [Builtin.firstCells]⟩
  · simp only [sliceCells] at e
    split at e
    · rename_i hb
      simp only [Bool.and_eq_true, ble_iff, beq_iff] at hb
      obtain ⟨q1, rfl⟩ := hb
      obtain ⟨sx, rfl, h1, h2⟩ := ha
      subst h1; subst h2
      obtain ⟨k1, k2⟩ := (byteCells_sound (L := L) sx).take e
      refine ⟨_, k2, fun w' _ => ?_⟩
      simp only [Builtin.firstCells, Sem.run_pure]
      congr 1
      apply Array.ext'
      simp [ByteArray.data_extract]
    · cases e
  · obtain ⟨vs, h1, h2, h3, _⟩ := firstN_run (P := P) m hc hle hlen hadr hg hcut
    refine ⟨vs, h2, fun w' hw' => ?_⟩
    have := run_loadCells_list (P := P) w' ad vs (fun j v hj => by rw [cell_heap hw']; exact h3 j v hj)
    rw [h1] at this
    simpa [Builtin.firstCells] using this

/-- what is appended -/
structure App (P : Program) (w : World) (xt : TypeId) (z : Value) (size bytes n : Nat) (x : Value) (news : List Value) (dx : TypeDesc) : Prop where
  type : ∀ w, (underlying xt).run P w = .ok dx w
  what : ((∃ q, dx = .int q) ∧ x = .int .i64 (n : Int) ∧ news = (List.replicate n z.cells.toList).flatten ∧ n * bytes < 100000000 ∧ n < 100000000) ∨
    ((dx = .string ∨ ∃ e, dx = .slice e) ∧ (∀ w', (Builtin.lenOf x).run P w' = .ok n w') ∧ ∀ w', w'.heap = w.heap → (Builtin.firstCells size n x).run P w' = .ok news.toArray w')

theorem zeroCells_list (z : Value) (n : Nat) : (Builtin.zeroCells z.cells n) = ((List.replicate n z.cells.toList).flatten).toArray := by
  apply Array.ext'
  exact range_rep _ _

theorem flatten_nil {z : List Value} {n : Nat} (h : n * z.length = 0) : (List.replicate n z).flatten = [] := by
  rcases Nat.mul_eq_zero.1 h with q | q
  · subst q; rfl
  · have : z = [] := by simpa using q
    subst this
    induction n with
    | zero => rfl
    | succ n ih => simp [List.replicate_succ]

theorem append_inplace {st xt ty el : TypeId} {rest : List TypeId} {z : Value} {inf : TypeInfo} {n : Nat} {x : Value} {news : List Value} {dx : TypeDesc} (ht : ∀ w, (underlying st).run P w = .ok (.slice el) w)
    (hi : ∀ w, (typeInfo el).run P w = .ok inf w) (hz : ∀ w, (zeroValue el).run P w = .ok z w) (hzs : z.cells.size = inf.size) (A : App P w xt z inf.size inf.bytes n x news dx)
    {base : Option Addr} {sLen sCap : Nat} (hle : sLen + n ≤ sCap) {w' : World} (hst : ∀ a, base = some a → (storeCells (a.add (sLen * inf.size)) news).run P w = .ok () w') (hn : base = none → w' = w) :
    (Builtin.append_ (st :: xt :: rest).toArray ty #[.slice base sLen sCap, x]).run P w = .ok (.slice base (sLen + n) sCap) w' := by
  obtain ⟨hxt, hw⟩ := A
  have hsz : ∀ w, (sizeOf el).run P w = .ok inf.size w := fun w => by simp [sizeOf, hi w]
  rcases hw with ⟨⟨q, rfl⟩, rfl, rfl, hb1, hb2⟩ | ⟨hdx, hlen, hf⟩
  · have hwr : IntKind.i64.wrap (n : Int) = n := wrap_small (by omega)
    have hneg : ¬ ((n : Int) < 0) := by omega
    have hbig : ¬ ((281474976710656 : Int) < (n : Int) * inf.bytes) := by
      have : ((n : Int) * inf.bytes) = ((n * inf.bytes : Nat) : Int) := by simp
      rw [this]; omega
    simp only [Builtin.append_]
    by_cases h0 : n * inf.size = 0
    · have hnil : (List.replicate n z.cells.toList).flatten = [] := flatten_nil (by simpa [hzs] using h0)
      rw [hnil] at hst
      have hww : w' = w := by
        cases base with
        | none => exact hn rfl
        | some a => have := hst a rfl; simp [storeCells] at this; exact this.symm
      subst hww
      cases base <;> simp [ht w', hsz w', hxt w', asInt, asIntOf, hwr, hneg, hi w', hbig, h0, hle, storeCells]
    · cases base with
      | none => have := hn rfl; subst this; simp [ht w', hsz w', hxt w', asInt, asIntOf, hwr, hneg, hi w', hbig, h0, hle, hz w', zeroCells_list]
      | some a => simp [ht w, hsz w, hxt w, asInt, asIntOf, hwr, hneg, hi w, hbig, h0, hle, hz w, zeroCells_list, hst a rfl]
  · have hni : (dx matches .int _) = false := by
      rcases hdx with rfl | ⟨e, rfl⟩ <;> rfl
    simp only [Builtin.append_]
    have hfw := hf w rfl
    cases base with
    | none =>
      have := hn rfl; subst this
      rcases hdx with rfl | ⟨e, rfl⟩ <;> simp [ht w', hsz w', hxt w', hlen w', hle, hfw]
    | some a => rcases hdx with rfl | ⟨e, rfl⟩ <;> simp [ht w, hsz w, hxt w, hlen w, hle, hfw, hst a rfl]

theorem append_grow {st xt ty el : TypeId} {rest : List TypeId} {z : Value} {inf : TypeInfo} {n : Nat} {x : Value} {news : List Value} {dx : TypeDesc} (ht : ∀ w, (underlying st).run P w = .ok (.slice el) w)
    (hi : ∀ w, (typeInfo el).run P w = .ok inf w) (hz : ∀ w, (zeroValue el).run P w = .ok z w) (hzs : z.cells.size = inf.size) (A : App P w xt z inf.size inf.bytes n x news dx)
    {base : Option Addr} {sLen sCap : Nat} (hgt : sCap < sLen + n) (hb : (sLen + n) * inf.bytes < 100000000) (hm : sLen + n < 100000000) {olds : List Value}
    (hold : ∀ w', w'.heap = w.heap → (Builtin.firstCells inf.size sLen (.slice base sLen sCap)).run P w' = .ok olds.toArray w') :
    (Builtin.append_ (st :: xt :: rest).toArray ty #[.slice base sLen sCap, x]).run P w =
      .ok (.slice (some ⟨w.heap.size, 0, none⟩) (sLen + n) (grownCap w (sLen + n) sCap el)) (w.drew.alloc (.cells (olds ++ news ++ (List.replicate (grownCap w (sLen + n) sCap el - (sLen + n)) z.cells.toList).flatten).toArray el)) := by
  obtain ⟨hxt, hw⟩ := A
  have hsz : ∀ w, (sizeOf el).run P w = .ok inf.size w := fun w => by simp [sizeOf, hi w]
  have hle : ¬ (sLen + n ≤ sCap) := by omega
  have hfit : ¬ (281474976710656 < Builtin.nextslicecap (sLen + n) sCap * inf.bytes) := by
    have := growslice_fits (need := sLen + n) (old := sCap) (bytes := inf.bytes) hgt (by omega)
    omega
  have hmax : ¬ ((9223372036854775807 : Int) < ((sLen : Int) + (n : Int))) := by omega
  have hold' := hold w.drew rfl
  have hforced : (Question.appendCap (sLen + n) sCap el).forced = false := rfl
  rcases hw with ⟨⟨q, rfl⟩, rfl, rfl, hb1, hb2⟩ | ⟨hdx, hlen, hf⟩
  · have hwr : IntKind.i64.wrap (n : Int) = n := wrap_small (by omega)
    have hneg : ¬ ((n : Int) < 0) := by omega
    have hbig : ¬ ((281474976710656 : Int) < (n : Int) * inf.bytes) := by
      have : ((n : Int) * inf.bytes) = ((n * inf.bytes : Nat) : Int) := by simp
      rw [this]; omega
    by_cases h0 : n * inf.size = 0
    · have hnil : (List.replicate n z.cells.toList).flatten = [] := flatten_nil (by simpa [hzs] using h0)
      rw [hnil]
      simp [Builtin.append_, ht w, hsz w, hxt w, asInt, asIntOf, hwr, hneg, hi w, hi w.drew, hbig, h0, hle, hz w.drew, zeroCells_list, hmax, hfit, hforced, hold', newRow, grownCap]
    · simp [Builtin.append_, ht w, hsz w, hxt w, asInt, asIntOf, hwr, hneg, hi w, hi w.drew, hbig, h0, hle, hz w.drew, zeroCells_list, hmax, hfit, hforced, hold', newRow, grownCap]
  · have hfw := hf w.drew rfl
    rcases hdx with rfl | ⟨e, rfl⟩ <;> simp [Builtin.append_, ht w, hsz w, hxt w, hlen w, hi w, hi w.drew, hle, hz w.drew, zeroCells_list, hmax, hfit, hforced, hold', hfw, newRow, grownCap]

/-- a new row, for a slice whose capacity is not known -/
theorem fresh_slice (s : St B w0 E L h nx w) {as : List AV} {vs rest : List Value} (hv : VRL L as vs) {esz need cp : Nat} {el : TypeId} (fz : Nat) (hfz : fz < 2) (h1 : vs.length = need * esz) (h2 : rest.length = (cp - need) * esz) (hle : need ≤ cp) :
    St B w0 E (L.put nx ⟨w.heap.size, 0, (vs ++ rest).toArray.size⟩) (h.set nx (.cells as false el fz false)) (nx + 1) (w.drew.alloc (.cells (vs ++ rest).toArray el)) ∧
    Grow E L h nx (L.put nx ⟨w.heap.size, 0, (vs ++ rest).toArray.size⟩) (h.set nx (.cells as false el fz false)) (nx + 1) ∧
    VR (L.put nx ⟨w.heap.size, 0, (vs ++ rest).toArray.size⟩) (.slice nx 0 need need esz false) (.slice (some ⟨w.heap.size, 0, none⟩) need cp) := by
  have hfr := s.fresh nx (Nat.le_refl _)
  have hle' := Lay.le_put L ⟨w.heap.size, 0, (vs ++ rest).toArray.size⟩ hfr
  refine ⟨⟨?_, fun b hb => ?_, by have := s.fl; omega⟩, ⟨hle', by omega, kept_set s.fl, fun x hx => Lay.put_other _ _ (by omega)⟩, ⟨_, _, cp, Lay.put_same .., rfl, .inr rfl, hle, hle, fun q => (by cases q), fun _ => ?_⟩⟩
  · refine MR.alloc s.m.drew hfr rfl ⟨_, (0, 0), rfl, by simp, ⟨vs, rest, by simp, hv.mono hle', fun q => by cases q⟩, fun _ => rfl, fun _ i _ => by simp, fun q => by cases q⟩
  · rw [Lay.put_other _ _ (by omega)]; exact s.fresh b (by omega)
  · simp only [List.size_toArray, List.length_append, h1, h2]
    rw [← Nat.add_mul]
    have : need + (cp - need) = cp := by omega
    rw [this]
    omega

/-- cells behind those of a slice with room -/
theorem open_slice (s : St B w0 E L h nx w) {b off sl n esz cp : Nat} {l old new : List AV} {ex : Bool} {el : TypeId} {fz : Nat} (hb : h.get b = some (.cells l ex el fz false)) (hf : fz < 2) (hfl : E.floor ≤ b)
    (hcut : lcut l off (sl * esz) = some old) {c : Loc} (hc : L b = some c) {news : List Value} (hn : VRL L new news) (hl : news.length = n * esz) (hcp : sl + n ≤ cp) (hroom : off + cp * esz ≤ c.size) :
    w.there c.blk (c.off + off + sl * esz) news.length ∧
    St B w0 E (L.put nx ⟨c.blk, c.off + off, c.size - off⟩) ((h.del b).set nx (.cells (old ++ new) false el fz false)) (nx + 1) (w.setCells c.blk (c.off + off + sl * esz) news) ∧
    Grow E L h nx (L.put nx ⟨c.blk, c.off + off, c.size - off⟩) ((h.del b).set nx (.cells (old ++ new) false el fz false)) (nx + 1) ∧
    VR (L.put nx ⟨c.blk, c.off + off, c.size - off⟩) (.slice nx 0 (sl + n) (sl + n) esz false) (.slice (some ⟨c.blk, c.off + off, none⟩) (sl + n) cp) := by
  obtain ⟨arr, fr, ys, rest, h1, h2, h3, h4, h5, h6, h7, h8⟩ := s.m.cells hb hc
  have hfr := s.fresh nx (Nat.le_refl _)
  have hle' := Lay.le_put L ⟨c.blk, c.off + off, c.size - off⟩ hfr
  have hmul : (sl + n) * esz ≤ cp * esz := Nat.mul_le_mul_right _ hcp
  rw [Nat.add_mul] at hmul
  have hfit : c.off + off + sl * esz + news.length ≤ arr.size := by omega
  have hB : B ≤ c.blk := (s.m.own b _ c hb hc).resolve_left (by simp [AObj.ro])
  obtain ⟨arr', q1, q2⟩ := setCells_heap news (c.off + off + sl * esz) w c.blk arr el fr h1 hfit
  have hsz : arr'.size = arr.size := by
    have := congrArg List.length q2
    rw [vlay_length (by simpa using hfit)] at this
    simpa using this
  have hbn : b ≠ nx := by have := s.live hb hc; omega
  refine ⟨fun j hj => ?_, ⟨⟨fun x o d hx hd => ?_, fun x x' o o' d d' hx hx' hd hd' e => ?_, fun x o d hx hd => ?_, s.m.below.trans (setCells_below _ _ _ _ hB), s.m.low⟩, fun x hx => ?_, by have := s.fl; omega⟩, ⟨hle', by omega, fun x hx => ?_, fun x hx => Lay.put_other _ _ (by omega)⟩,
    ⟨_, _, cp, Lay.put_same .., rfl, .inr (by simp), hcp, hcp, fun q => (by cases q), fun _ => by show 0 + cp * esz ≤ c.size - off; omega⟩⟩
  · have hlt : c.off + off + sl * esz + j < arr.size := by omega
    constructor
    · rw [cell_at h1]; simp [hlt]
    · simp only [World.frozen?, h1]
      have := h7 hf _ hlt
      simp only [decide_eq_false_iff_not, Bool.and_eq_false_iff]
      simp only [not_and, Nat.not_lt] at this
      by_cases q : fr.1 ≤ c.off + off + sl * esz + j
      · right; have := this q; simpa using this
      · left; simpa using q
  · rw [T.get_set] at hx
    split at hx
    · rename_i e; subst e
      injection hx with hx; subst hx
      rw [Lay.put_same] at hd; injection hd with hd; subst hd
      refine ⟨_, q1, arr', fr, rfl, by show arr'.size = c.off + off + (c.size - off); omega, ?_, h6, fun hz i hi => h7 hf i (by omega), fun q => by cases q⟩
      obtain ⟨k1, k2⟩ := h4.cut hcut
      have hol : old.length = sl * esz := lcut_length hcut
      refine ⟨((ys.drop off).take (sl * esz)) ++ news, arr.toList.drop (c.off + off + sl * esz + news.length), ?_, (k2.mono hle').append (hn.mono hle'), fun q => by cases q⟩
      have e0 : arr.toList.drop (c.off + off) = (ys ++ rest).drop off := by rw [← h3, List.drop_drop]
      have k3 := k2.length
      rw [q2]
      show (vlay news (c.off + off + sl * esz) arr.toList).drop (c.off + off) = _
      have e1 : arr.toList = arr.toList.take (c.off + off) ++ (((ys.drop off).take (sl * esz)) ++ arr.toList.drop (c.off + off + sl * esz)) := by
        have : (ys.drop off).take (sl * esz) = (arr.toList.drop (c.off + off)).take (sl * esz) := by
          rw [e0]
          rcases k1 with z | z
          · rw [z]; simp
          · rw [List.drop_append_of_le_length (by omega), List.take_append_of_le_length (by simp; omega)]
        have d1 : arr.toList.drop (c.off + off + sl * esz) = (arr.toList.drop (c.off + off)).drop (sl * esz) := by rw [List.drop_drop]
        rw [this, d1, List.take_append_drop, List.take_append_drop]
      have htl : (arr.toList.take (c.off + off)).length = c.off + off := by simp; omega
      have hml : ((ys.drop off).take (sl * esz)).length = sl * esz := by rw [← k3, hol]
      have hvl : vlay news (c.off + off + sl * esz) arr.toList = arr.toList.take (c.off + off) ++ (((ys.drop off).take (sl * esz)) ++ news ++ arr.toList.drop (c.off + off + sl * esz + news.length)) := by
        simp only [vlay]
        have : arr.toList.take (c.off + off + sl * esz) = arr.toList.take (c.off + off) ++ ((ys.drop off).take (sl * esz)) := by
          conv => lhs; rw [e1]
          rw [← List.append_assoc, List.take_append_of_le_length (by simp only [List.length_append, htl, hml]; omega)]
          exact List.take_of_length_le (by simp only [List.length_append, htl, hml]; omega)
        rw [this]
        simp
      rw [hvl]
      have : ∀ (p q : List Value) (k : Nat), p.length = k → (p ++ q).drop k = q := by intro p q k hk; subst hk; simp
      rw [this _ _ _ htl]
    · rename_i e
      rw [T.get_del] at hx
      split at hx
      · cases hx
      · rename_i e2
        rw [Lay.put_other _ _ e] at hd
        obtain ⟨z, g1, g2⟩ := s.m.obj x o d hx hd
        exact ⟨z, by rw [setCells_other _ _ _ _ _ (fun q => e2 (s.m.inj x b o _ d c hx hb hd hc q))]; exact g1, g2.mono hle'⟩
  · have key : ∀ {x : Nat} {o : AObj} {d : Loc}, ((h.del b).set nx (.cells (old ++ new) false el fz false)).get x = some o → (L.put nx ⟨c.blk, c.off + off, c.size - off⟩) x = some d →
        (x = nx ∧ d.blk = c.blk) ∨ (x ≠ b ∧ h.get x = some o ∧ L x = some d ∧ x ≠ nx) := by
      intro x o d hx hd
      rw [T.get_set] at hx
      split at hx
      · rename_i e; subst e
        rw [Lay.put_same] at hd; injection hd with hd; subst hd
        exact .inl ⟨rfl, rfl⟩
      · rename_i e
        rw [T.get_del] at hx
        split at hx
        · cases hx
        · rename_i e2
          rw [Lay.put_other _ _ e] at hd
          exact .inr ⟨e2, hx, hd, e⟩
    rcases key hx hd with ⟨k1, k2⟩ | ⟨k1, k2, k3, k4⟩ <;> rcases key hx' hd' with ⟨j1, j2⟩ | ⟨j1, j2, j3, j4⟩
    · rw [k1, j1]
    · exact absurd (s.m.inj x' b o' _ d' c j2 hb j3 hc (by rw [← e, k2])) j1
    · exact absurd (s.m.inj x b o _ d c k2 hb k3 hc (by rw [e, j2])) k1
    · exact s.m.inj x x' o o' d d' k2 j2 k3 j3 e
  · rw [T.get_set] at hx
    split at hx
    · rename_i e; subst e
      rw [Lay.put_same] at hd; injection hd with hd; subst hd
      exact .inr hB
    · rename_i e
      rw [T.get_del] at hx
      split at hx
      · cases hx
      · rw [Lay.put_other _ _ e] at hd
        exact s.m.own x o d hx hd
  · rw [Lay.put_other _ _ (by omega)]; exact s.fresh x (by omega)
  · rw [T.get_set, if_neg (by have := s.fl; omega), T.get_del, if_neg (by omega)]

theorem slLen_run {a : AV} {n : Nat} (e : slLen a = some n) {x : Value} (ha : VR L a x) : ∃ base cap, x = .slice base n cap ∧ (base = none → n = 0) := by
  unfold slLen at e
  split at e
  · injection e with e; subst e; exact ⟨none, 0, ha, fun _ => rfl⟩
  · injection e with e; subst e; obtain ⟨c, a, cp, _, rfl, _⟩ := ha; exact ⟨_, _, rfl, fun q => by cases q⟩
  · cases e

theorem Done.less {s : Sem Next} {v : AV} {h' h'' : Heap} {nx' : Nat} (d : Done P B w0 E s L h nx w v h' nx') (hs : ∀ x o, h''.get x = some o → h'.get x = some o) (hk : ∀ x, x < E.floor → h''.get x = h.get x) :
    Done P B w0 E s L h nx w v h'' nx' := by
  obtain ⟨nxt, val, w', M, g1, g2, g3, g4, g5⟩ := d
  exact ⟨nxt, val, w', M, g1, g2, ⟨g3.m.less hs, g3.fresh, g3.fl⟩, ⟨g4.le, g4.nle, hk, g4.old⟩, g5⟩

theorem aappendTo_sound (H : EnvOk P E) (s : St B w0 E L h nx w) {st xt ty el : TypeId} {ts : List TypeId} {a r : AV} {n : Nat} {new : List AV} {h' : Heap} {nx' : Nat} {ei : TyI} (htk : tk E st = some (.slice el)) (hei : E.ty el = some ei)
    (e : aappendTo E a el ei.size (n + 1) new h nx = .val r h' nx') {sl : Nat} (hsl : slLen a = some sl) (hb : (sl + (n + 1)) * (ei.bytes + ei.size + 1) < 100000000) {x y : Value} (ha : VR L a x) {news : List Value} (hn : VRL L new news)
    (hnl : news.length = (n + 1) * ei.size) {z : Value} (hz : ∀ w, (zeroValue el).run P w = .ok z w) (hzs : z.cells.size = ei.size) {dx : TypeDesc} (A : App P w xt z ei.size ei.bytes (n + 1) y news dx) :
    Done P B w0 E (do pure (.value (← Builtin.append_ (st :: xt :: ts).toArray ty #[x, y]))) L h nx w r h' nx' := by
  obtain ⟨d, hd, hk⟩ := H.tk htk
  simp only [TKR] at hk; subst hk
  obtain ⟨inf, _, hi, hi2, hi3, _⟩ := H.info hei
  rw [← hi2] at hzs hnl hb
  rw [← hi3] at hb
  rw [← hi2, ← hi3] at A
  have hb1 : (sl + (n + 1)) * inf.bytes < 100000000 := Nat.lt_of_le_of_lt (Nat.mul_le_mul_left _ (by omega)) hb
  have hb2 : sl + (n + 1) < 100000000 := Nat.lt_of_le_of_lt (by have := Nat.mul_le_mul_left (sl + (n + 1)) (show 1 ≤ inf.bytes + inf.size + 1 by omega); omega) hb
  have hrest : ∀ k, ((List.replicate k z.cells.toList).flatten).length = k * inf.size := by
    intro k
    rw [← hzs]
    simp
  have grow : ∀ {base : Option Addr} {cap : Nat} {old : List AV} {olds : List Value} {hh : Heap} (fz : Nat), fz < 2 → x = .slice base sl cap → cap < sl + (n + 1) → VRL L old olds → olds.length = sl * inf.size →
      (∀ w', w'.heap = w.heap → (Builtin.firstCells inf.size sl (.slice base sl cap)).run P w' = .ok olds.toArray w') → r = .slice nx 0 (sl + (n + 1)) (sl + (n + 1)) inf.size false → hh = h.set nx (.cells (old ++ new) false el fz false) → nx' = nx + 1 →
      Done P B w0 E (do pure (.value (← Builtin.append_ (st :: xt :: ts).toArray ty #[x, y]))) L h nx w r hh nx' := by
    intro base cap old olds hh' fz hfz hx hcap ho hol hf hr hh hnx
    subst hx; subst hr; subst hh; subst hnx
    have hcp : sl + (n + 1) ≤ grownCap w (sl + (n + 1)) cap el := by unfold grownCap Question.cut; simp only; omega
    obtain ⟨g1, g2, g3⟩ := fresh_slice s (el := el) (ho.append hn) (esz := inf.size) (need := sl + (n + 1)) (cp := grownCap w (sl + (n + 1)) cap el) fz hfz (rest := (List.replicate (grownCap w (sl + (n + 1)) cap el - (sl + (n + 1))) z.cells.toList).flatten)
      (by rw [List.length_append, hol, hnl, ← Nat.add_mul]) (hrest _) hcp
    exact Done.value (append_grow hd hi hz hzs A hcap hb1 hb2 hf) g1 g2 g3
  unfold aappendTo at e
  split at e
  · injection e with e1 e2 e3
    simp only [slLen] at hsl
    injection hsl with hsl; subst hsl
    simp only [VR] at ha
    refine grow (old := []) (olds := []) 0 (by decide) ha (by omega) rfl (by simp) (fun w' _ => by simp [Builtin.firstCells]) ?_ e2.symm e3.symm
    rw [← e1, hi2]; simp
  · rename_i b off sl' cap sz ex
    simp only [slLen] at hsl
    injection hsl with hsl; subst hsl
    split at e
    · rename_i hq
      have hq' := beq_iff.1 hq
      subst hq'
      obtain ⟨c, ad, cp, hc, rfl, hadr, hlen, hcap, hex, hne⟩ := ha
      split at e
      · rename_i hroom
        have hroom' := ble_iff.1 hroom
        split at e
        · rename_i h2 hst
          rw [force_eq] at e
          injection e with e1 e2 e3; subst e1; subst e2; subst e3
          obtain ⟨g1, g2, g3, g4⟩ := astore_sound s hst hc hn
          have had : ad = ⟨c.blk, c.off + off, none⟩ := by rcases hadr with q | q; · omega
                                                           · exact q
          subst had
          refine Done.value (append_inplace hd hi hz hzs A (w' := w.setCells c.blk (c.off + (off + sl' * ei.size)) news) (by omega) (fun a ha => ?_) (fun q => by cases q)) g3 g4 ⟨c, _, cp, hc, rfl, .inr rfl, by omega, hcap, hex, hne⟩
          injection ha with ha; subst ha
          rw [Addr.add_mid, hi2, Nat.add_assoc]
          exact run_store_there g1 g2
        · cases e
      · rename_i hroom
        have hroom' : ¬ (sl' + (n + 1) ≤ cap) := fun q => by rw [ble_iff.2 q] at hroom; cases hroom
        split at e
        · rename_i hexx
          unfold afresh at e
          split at e
          · rename_i l hl
            split at e
            · rename_i old hold
              injection e with e1 e2 e3
              have hcpc := hex rfl
              subst hcpc
              have hsc : sliceCells h (.slice b off sl' cp ei.size true) ei.size sl' = some old := by
                simp only [sliceCells]
                have : (Nat.beq ei.size ei.size && Nat.ble sl' sl') = true := by simp
                rw [this]
                simp only [hl]
                exact hold
              obtain ⟨olds, k1, k2⟩ := sliceCells_run' (P := P) s.m hsc (x := .slice (some ad) sl' cp) ⟨c, ad, cp, hc, rfl, hadr, hlen, hcap, hex, hne⟩
              rw [← hi2] at k2
              refine grow 0 (by decide) rfl (by omega) k1 ?_ k2 (by rw [← e1, hi2]) e2.symm e3.symm
              rw [← k1.length, lcut_length hold, hi2]
            · cases e
          · cases e
        · unfold aopen at e
          split at e
          · rename_i l ex2 el2 fz ro hg
            split at e
            · rename_i hok
              simp only [Bool.and_eq_true, Bool.not_eq_true', blt_iff, blt_not, beq_iff] at hok
              obtain ⟨⟨⟨⟨q1, q2⟩, q3⟩, q4⟩, q5⟩ := hok
              subst q1; subst q5
              split at e
              · rename_i old hold
                split at e
                · rename_i hone
                  injection e with e1 e2 e3
                  have hrm := hne rfl
                  by_cases hfit : sl' + (n + 1) ≤ cp
                  · subst e1; subst e2; subst e3
                    have had : ad = ⟨c.blk, c.off + off, none⟩ := by rcases hadr with q | q; · omega
                                                                     · exact q
                    subst had
                    obtain ⟨g1, g2, g3, g4⟩ := open_slice s hg q4 (by omega) hold hc hn (by rw [hnl, hi2]) hfit hrm
                    refine Done.value (append_inplace hd hi hz hzs A (w' := w.setCells c.blk (c.off + off + sl' * ei.size) news) hfit (fun a ha => ?_) (fun q => by cases q)) g2 g3 g4
                    injection ha with ha; subst ha
                    rw [Addr.add_mid, hi2]
                    exact run_store_there g1 (hn.one hone)
                  · have hsc : sliceCells h (.slice b off sl' cap ei.size false) ei.size sl' = some old := by
                      simp only [sliceCells]
                      have : (Nat.beq ei.size ei.size && Nat.ble sl' sl') = true := by simp
                      rw [this]
                      simp only [acells, hg]
                      exact hold
                    obtain ⟨olds, k1, k2⟩ := sliceCells_run' (P := P) s.m hsc (x := .slice (some ad) sl' cp) ⟨c, ad, cp, hc, rfl, hadr, hlen, hcap, hex, hne⟩
                    rw [← hi2] at k2
                    have hd2 := grow fz q4 rfl (by omega) k1 (by rw [← k1.length, lcut_length hold, hi2]) k2 (by rw [← e1, hi2]) rfl e3.symm
                    rw [← e2]
                    refine hd2.less (fun x o hx => ?_) (fun x hx => ?_)
                    · rw [T.get_set] at hx ⊢
                      split at hx
                      · rename_i q; rw [if_pos q]; exact hx
                      · rename_i q
                        rw [if_neg q]
                        rw [T.get_del] at hx
                        split at hx
                        · cases hx
                        · exact hx
                    · rw [T.get_set, if_neg (by have := s.fl; omega), T.get_del, if_neg (by omega)]
                · cases e
              · cases e
            · cases e
          · cases e
    · cases e
  · cases e
end
end Go.AX

namespace Go.AX
open Go Go.RowKit

section
variable {P : Program} {E : Env} {B : Nat} {w0 : World} {L : Lay} {h : Heap} {nx : Nat} {w : World}

theorem aappend_sound (H : EnvOk P E) (s : St B w0 E L h nx w) {st xt ty : TypeId} {ts : List TypeId} {zeros : Bool} {a b r : AV} {h' : Heap} {nx' : Nat} (e : aappend E st zeros a b h nx = .val r h' nx')
    (hxt : (zeros = true ∧ ∃ q, tk E xt = some (.int q)) ∨ (zeros = false ∧ (tk E xt = some .str ∨ ∃ q, tk E xt = some (.slice q)))) {x y : Value} (ha : VR L a x) (hb : VR L b y) :
    Done P B w0 E (do pure (.value (← Builtin.append_ (st :: xt :: ts).toArray ty #[x, y]))) L h nx w r h' nx' := by
  unfold aappend at e
  split at e
  · rename_i el htk
    obtain ⟨d, hd, hk⟩ := H.tk htk
    simp only [TKR] at hk; subst hk
    split at e
    · rename_i ei hei
      obtain ⟨inf, _, hi, hi2, hi3, _⟩ := H.info hei
      obtain ⟨z, hz, hzr, hznt, hzs⟩ := H.zero hei
      have hzs' : z.cells.size = inf.size := by rw [hi2]; exact hzs
      split at e
      · rename_i sl hsl
        obtain ⟨base, cap, rfl, hbase⟩ := slLen_run hsl ha
        have hle : sl ≤ cap := by
          unfold slLen at hsl
          split at hsl
          · injection hsl with hsl; omega
          · injection hsl with hsl; subst hsl
            obtain ⟨c, ad, cp, _, hv, _, hlen, _⟩ := ha
            injection hv with _ _ hv; subst hv; exact hlen
          · cases hsl
        have none0 : ∀ {dx : TypeDesc}, App P w xt z inf.size inf.bytes 0 y [] dx → Done P B w0 E (do pure (.value (← Builtin.append_ (st :: xt :: ts).toArray ty #[.slice base sl cap, y]))) L h nx w a h nx := by
          intro dx A
          have := append_inplace (ty := ty) (rest := ts) hd hi hz hzs' A (w' := w) (base := base) (sLen := sl) (sCap := cap) (by omega) (fun a _ => rfl) (fun _ => rfl)
          exact Done.value this s (Grow.refl ..) ha
        split at e
        · -- zeros
          obtain ⟨q, htx⟩ : ∃ q, tk E xt = some (.int q) := by
            rcases hxt with ⟨_, h⟩ | ⟨h, _⟩
            · exact h
            · cases h
          obtain ⟨dx, hdx, hkx⟩ := H.tk htx
          simp only [TKR] at hkx
          split at e
          · rename_i n
            simp only [VR] at hb; subst hb
            split at e
            · rename_i hlt
              have hlt' := blt_iff.1 hlt
              have b1 : (sl + n) * ei.bytes < 100000000 := Nat.lt_of_le_of_lt (Nat.mul_le_mul_left _ (by omega)) hlt'
              have b2 : sl + n < 100000000 := Nat.lt_of_le_of_lt (by have := Nat.mul_le_mul_left (sl + n) (show 1 ≤ ei.bytes + ei.size + 1 by omega); omega) hlt'
              have b3 : n * ei.bytes < 100000000 := Nat.lt_of_le_of_lt (Nat.mul_le_mul_right _ (by omega)) b1
              split at e
              · injection e with e1 e2 e3; subst e1; subst e2; subst e3
                exact none0 (dx := dx) ⟨hdx, .inl ⟨⟨q, hkx⟩, rfl, rfl, by omega, by omega⟩⟩
              · rename_i n
                refine aappendTo_sound H s htk hei e hsl hlt' ha (arep_sound ((hzr L).cells hznt) (n + 1)) ?_ hz hzs (dx := dx) ⟨hdx, .inl ⟨⟨q, hkx⟩, rfl, rfl, b3, by omega⟩⟩
                rw [List.length_flatten]
                simp [hzs]
            · cases e
          · cases e
        · -- cells
          have htx : tk E xt = some .str ∨ ∃ q, tk E xt = some (.slice q) := by
            rcases hxt with ⟨h, _⟩ | ⟨_, h⟩
            · cases h
            · exact h
          obtain ⟨dx, hdx, hdd⟩ : ∃ dx, (∀ w, (underlying xt).run P w = .ok dx w) ∧ (dx = .string ∨ ∃ e, dx = .slice e) := by
            rcases htx with h | ⟨q, h⟩
            · obtain ⟨dx, hdx, hkx⟩ := H.tk h
              exact ⟨dx, hdx, .inl hkx⟩
            · obtain ⟨dx, hdx, hkx⟩ := H.tk h
              exact ⟨dx, hdx, .inr ⟨q, hkx⟩⟩
          split at e
          · rename_i n hn
            split at e
            · rename_i hlt
              have hlt' := blt_iff.1 hlt
              have hlen : ∀ w', (Builtin.lenOf y).run P w' = .ok n w' := fun w' => lenOf_run hn hb
              split at e
              · injection e with e1 e2 e3; subst e1; subst e2; subst e3
                refine none0 (dx := dx) ⟨hdx, .inr ⟨hdd, hlen, fun w' hw' => ?_⟩⟩
                cases b <;> simp only [lenOf, reduceCtorEq] at hn
                case str => obtain ⟨sx, rfl, _⟩ := hb; simp [Builtin.firstCells]
                case nils => simp only [VR] at hb; subst hb; simp [Builtin.firstCells]
                case slice => obtain ⟨c, ad, cp, _, rfl, _⟩ := hb; simp [Builtin.firstCells, loadCells, loadCellsFrom]
              · rename_i n
                split at e
                · rename_i new hnew
                  split at e
                  · rename_i hone
                    obtain ⟨vs, k1, k2⟩ := sliceCells_run' (P := P) s.m hnew hb
                    have hcl : new.length = (n + 1) * ei.size := by
                      unfold sliceCells at hnew
                      split at hnew
                      · cases hnew
                      · split at hnew
                        · split at hnew
                          · exact lcut_length hnew
                          · cases hnew
                        · cases hnew
                      · split at hnew
                        · rename_i hb2
                          simp only [Bool.and_eq_true, beq_iff] at hb2
                          rw [ltake_length hnew, hb2.2]; omega
                        · cases hnew
                      · cases hnew
                    exact aappendTo_sound H s htk hei e hsl hlt' ha k1 (by rw [← k1.length, hcl]) hz hzs (dx := dx) ⟨hdx, .inr ⟨hdd, hlen, k2⟩⟩
                  · cases e
                · cases e
            · cases e
          · cases e
      · cases e
    · cases e
  · cases e
end
end Go.AX

namespace Go.AX
open Go Go.RowKit

section
variable {P : Program} {E : Env} {B : Nat} {w0 : World} {L : Lay} {h : Heap} {nx : Nat} {w : World}

/-- what an operation comes to -/
def Outs (P : Program) (B : Nat) (w0 : World) (E : Env) (s : Sem Next) (L : Lay) (h : Heap) (nx : Nat) (w : World) : R → Prop
  | .val v h' nx' => Done P B w0 E s L h nx w v h' nx'
  | .enter f as => ∃ args : Array Value, s.run P w = .ok (.enter f args) w ∧ VRL L as args.toList
  | .round b as => ∃ (args : Array Value) (c : Loc), L b = some c ∧ s.run P w = (Instr.yield c.blk args).run P w ∧ VRL L as args.toList
  | .defer d => ∃ d', s.run P w = .ok (.defer d') w ∧ DR L d d'
  | .recover => s.run P w = .ok .recover w
  | .fork l => ∃ p ∈ l, Done P B w0 E s L h nx w p.1 p.2 nx
  | .bad _ => True

theorem findByte_sound (s : ByteArray) (c : Int) (u : UInt8) (hu : (u.toNat : Int) = c) : ∀ (f i : Nat), i + f = s.size →
    (match findByte s.size (packN (bytesN s)) c f i with | some j => Int.ofNat j | none => -1) = (match (List.range' i f).find? (fun i => s[i]! == u) with | some j => (j : Int) | none => -1)
  | 0, i, _ => rfl
  | f + 1, i, hi => by
    have hlt : i < s.size := by omega
    obtain ⟨b, q1, q2⟩ := str_index hlt
    have hb : s[i]! = b := by
      rw [getElem!_def, q1]
    simp only [findByte, List.range'_succ, List.find?_cons, q2, hb]
    by_cases hc : b = u
    · subst hc
      have : decide (Int.ofNat b.toNat = c) = true := by simpa using hu
      rw [this]
      simp
    · have h1 : decide (Int.ofNat b.toNat = c) = false := by
        simp only [decide_eq_false_iff_not]
        intro q
        apply hc
        rw [← hu] at q
        have := Int.ofNat.inj q
        exact UInt8.toNat_inj.1 this
      have h2 : (b == u) = false := by simpa using hc
      rw [h1, h2]
      exact findByte_sound s c u hu f (i + 1) (by omega)

theorem Done.outs_same {v : AV} {k : R} (e : k = .val v h nx) {s : Sem Value} {val : Value} (hs : St B w0 E L h nx w) (h1 : s.run P w = .ok val w) (h2 : VR L v val) : Outs P B w0 E (do pure (.value (← s))) L h nx w k := by
  subst e
  exact Done.value h1 hs (Grow.refl ..) h2

theorem aext_sound (s : St B w0 E L h nx w) {k : ExtK} {as : List AV} {args : Array Value} (ha : VRL L as args.toList) {e : Array Value → Sem Value} (he : extSem k = some e) :
    Outs P B w0 E (do pure (.value (← e args))) L h nx w (aext k as h nx) := by
  obtain ⟨args⟩ := args
  simp only at ha
  cases k <;> simp only [extSem, Option.some.injEq] at he <;> subst he <;> simp only [aext]
  case same =>
    split
    · obtain ⟨v, vs, rfl, hv, hn⟩ := ha
      cases hn
      exact Done.outs_same rfl s (val := v) rfl hv
    · trivial
  case mapsClone =>
    split
    · obtain ⟨v, vs, rfl, hv, hn⟩ := ha
      cases hn
      obtain ⟨y, rfl, c, hc, rfl⟩ := hv
      split
      · rename_i es clock hb
        obtain ⟨o', ho, arr, rfl, her⟩ := s.m.obj _ _ c hb hc
        have hfr := s.fresh nx (Nat.le_refl _)
        have hle' := Lay.le_put L ⟨w.heap.size, 0, 0⟩ hfr
        have hm : MR B w0 (L.put nx ⟨w.heap.size, 0, 0⟩) (h.set nx (.map es clock)) (w.alloc (.map arr clock)) := s.m.alloc hfr rfl ⟨arr, rfl, her.mono hle'⟩
        refine Done.value (val := .iface _ (.map (some w.heap.size))) (w' := w.alloc (.map arr clock)) ?_ ⟨hm, fun b hb => ?_, by have := s.fl; omega⟩ ⟨hle', by omega, kept_set s.fl, fun x hx => Lay.put_other _ _ (by omega)⟩ ⟨_, rfl, _, Lay.put_same .., rfl⟩
        · have hc : ∀ t r, Extern.MapsClone.clone #[.iface t (.map (some r))] = (do
              let .map entries clock ← getObj r | stuck "maps.clone: a map expected"
              pure (.iface t (.map (some (← newObj (.map entries clock)))))) := fun _ _ => rfl
          rw [hc]
          simp [getMap ho]
        · rw [Lay.put_other _ _ (by omega)]; exact s.fresh b (by omega)
      · trivial
    · trivial
  case indexByte =>
    split
    · obtain ⟨v, vs, rfl, hv, v2, vs2, rfl, hv2, hn⟩ := ha
      cases hn
      rename_i n ss c
      split
      · rename_i hlt
        have hlt' := blt_iff.1 hlt
        obtain ⟨sx, rfl, h1, h2⟩ := hv
        simp only [VR] at hv2; subst hv2
        subst h1; subst h2
        rw [mkInt_eq]
        have hu : ((UInt8.ofNat c).toNat : Int) = Int.ofNat c := by simp; omega
        have hf := findByte_sound sx (Int.ofNat c) (UInt8.ofNat c) hu sx.size 0 (by omega)
        have hdef : Extern.BytealgIndexByte.indexByte #[.string sx, .int .u8 (Int.ofNat c)] = (do
            let b ← Extern.Bytes.bytesOf (.string sx)
            let c ← Extern.Bytes.asByte (.int .u8 (Int.ofNat c))
            match (List.range b.size).find? fun i => b[i]! == c with
            | some i => pure (goInt i)
            | none => pure (goInt (-1))) := rfl
        have hrun : (Extern.BytealgIndexByte.indexByte #[.string sx, .int .u8 (Int.ofNat c)]).run P w = .ok (goInt (match (List.range' 0 sx.size).find? (fun i => sx[i]! == UInt8.ofNat c) with | some j => (j : Int) | none => -1)) w := by
          rw [hdef]
          simp only [Extern.Bytes.bytesOf, Extern.Bytes.asByte, Sem.run_bind, Sem.run_pure, Result.andThen_ok]
          have : (Int.ofNat c).toNat.toUInt8 = UInt8.ofNat c := rfl
          rw [this, List.range_eq_range']
          cases (List.range' 0 sx.size).find? (fun i => sx[i]! == UInt8.ofNat c) <;> rfl
        rw [← hf] at hrun
        exact Done.outs_same rfl s hrun rfl
      · trivial
    · trivial

theorem Outs.congr {s s' : Sem Next} (e : s.run P w = s'.run P w) {r : R} (o : Outs P B w0 E s L h nx w r) : Outs P B w0 E s' L h nx w r := by
  cases r <;> simp only [Outs, Done] at o ⊢ <;> simpa only [e] using o

theorem acall_sound (H : EnvOk P E) (s : St B w0 E L h nx w) {f : FuncId} {as : List AV} {args : Array Value} (ha : VRL L as args.toList) :
    Outs P B w0 E (callFunc f args) L h nx w (acall E f as h nx) := by
  unfold acall
  split
  · rename_i fi hfi
    obtain ⟨fn, h1, h2, h3⟩ := (H.fn f fi hfi).ok
    have h2' : ¬ fn.name = "runtime.NumGoroutine" := by simpa using h2
    cases hx : fi.ext with
    | none =>
      rw [hx] at h3
      obtain ⟨hb, _⟩ := h3
      refine ⟨args, ?_, ha⟩
      simp [callFunc, h1, h2', hb]
    | some k =>
      rw [hx] at h3
      obtain ⟨hb, hn, e, he, hs⟩ := h3
      refine Outs.congr ?_ (aext_sound s (k := k) ha hs)
      have hn' : Extern.findNext fn = none := by simpa using hn
      simp [callFunc, h1, h2', hb, hn', he]
  · trivial

theorem acallValue_sound (H : EnvOk P E) (s : St B w0 E L h nx w) {g : AV} {as : List AV} {v : Value} {args : Array Value} (hg : VR L g v) (ha : VRL L as args.toList) :
    Outs P B w0 E (do let d ← Deferred.ofValue v args; invoke d.target d.args) L h nx w (acallValue E g as h nx) := by
  unfold acallValue
  split
  · rename_i f first captured
    obtain ⟨a, b, rfl, h1, h2⟩ := hg
    refine Outs.congr ?_ (acall_sound (args := a ++ args ++ b) H s (f := f) (as := first ++ as ++ captured) ?_)
    · simp [Deferred.ofValue, invoke]
    · simp only [Array.toList_append]
      exact (h1.append ha).append h2
  · rename_i l
    obtain ⟨c, hc, rfl⟩ := hg
    exact ⟨args, c, hc, by simp [Deferred.ofValue, invoke], ha⟩
  · trivial

theorem ainvoke_sound (H : EnvOk P E) (s : St B w0 E L h nx w) {r : AV} {m : String} {as : List AV} {v : Value} {args : Array Value} (hr : VR L r v) (ha : VRL L as args.toList) :
    Outs P B w0 E (invoke (.fn (.method m) #[]) (#[v] ++ args)) L h nx w (ainvoke E r m as h nx) := by
  unfold ainvoke
  split
  · rename_i t x
    obtain ⟨y, rfl, hy⟩ := hr
    split
    · rename_i f hf
      refine Outs.congr ?_ (acall_sound (args := #[y] ++ args) H s (f := f) (as := x :: as) ?_)
      · have hm := H.meth t m f hf y w
        have h0 : (#[Value.iface t y] ++ args)[0]? = some (Value.iface t y) := by
          rw [Array.getElem?_append_left (by simp)]; rfl
        have hx : (#[Value.iface t y] ++ args).extract 1 (#[Value.iface t y] ++ args).size = args := by
          apply Array.ext'; simp
        simp only [invoke, h0, hx, callMethod, Sem.run_bind, hm]
        simp [hm]
      · simp only [Array.toList_append]
        exact ⟨y, _, rfl, hy, ha⟩
    · trivial
  · trivial

theorem adefer_sound {r : Operand → AV} {ρ : Operand → Value} {c : Call} {ty : TypeId} (hx : ∀ x ∈ c.operands, VR L (r x) (ρ x)) :
    match adefer r c with | .defer d => ∃ d', (resolve ρ c ty).run P w = .ok d' w ∧ DR L d d' | .bad _ => True | _ => False := by
  unfold adefer
  cases hc : c.callee with
  | value f =>
    simp only
    have hf := hx f (by simp [Call.operands, hc])
    have hargs := args_cells (L := L) (r := r) (ρ := ρ) (args := c.args) fun x hq => hx x (by simp [Call.operands, hq])
    cases hr : r f <;> simp only
    rename_i g first captured
    rw [hr] at hf
    obtain ⟨a, b, hv, h1, h2⟩ := hf
    refine ⟨{ target := .fn (.func g) b, args := a ++ c.args.map ρ }, by simp [resolve, hc, hv, Deferred.ofValue], b, _, rfl, ?_⟩
    simp only [Array.toList_append]
    exact (h1.append hargs).append h2
  | invoke _ _ => trivial
  | builtin _ => trivial
end
end Go.AX

namespace Go.AX
open Go Go.RowKit

section
variable {P : Program} {E : Env} {B : Nat} {w0 : World} {L : Lay} {h : Heap} {nx : Nat} {w : World}

theorem St.drew (s : St B w0 E L h nx w) : St B w0 E L h nx w.drew := ⟨s.m.drew, s.fresh, s.fl⟩

/-- a candidate, abstract and not -/
def CandR (L : Lay) : Option (AV × AV × Nat) → Option MapEntry → Prop
  | none, none => True
  | some e, some x => VR L e.1 x.key ∧ VR L e.2.1 x.val ∧ e.2.2 = x.born
  | _, _ => False
def CandL (L : Lay) : List (Option (AV × AV × Nat)) → List (Option MapEntry) → Prop
  | [], l => l = []
  | c :: cs, l => ∃ x xs, l = x :: xs ∧ CandR L c x ∧ CandL L cs xs

theorem ER.filter {p : AV × AV × Nat → Bool} {q : MapEntry → Bool} (hpq : ∀ (e : AV × AV × Nat) (x : MapEntry), e.2.2 = x.born → p e = q x) : ∀ {es : List (AV × AV × Nat)} {l : List MapEntry}, ER L es l → ER L (es.filter p) (l.filter q)
  | [], _, h => by cases h; rfl
  | e :: es, _, ⟨x, xs, e1, h1, h2, h3, h4⟩ => by
    subst e1
    have ih := ER.filter hpq h4
    have := hpq e x h3
    cases hq : q x with
    | true => rw [List.filter_cons_of_pos (by rw [this, hq]), List.filter_cons_of_pos hq]; exact ⟨x, _, rfl, h1, h2, h3, ih⟩
    | false => rw [List.filter_cons_of_neg (by rw [this, hq]; simp), List.filter_cons_of_neg (by rw [hq]; simp)]; exact ih
theorem ER.append : ∀ {es fs : List (AV × AV × Nat)} {l k : List MapEntry}, ER L es l → ER L fs k → ER L (es ++ fs) (l ++ k)
  | [], _, _, _, h, g => by cases h; exact g
  | _ :: _, _, _, _, ⟨x, xs, e1, h1, h2, h3, h4⟩, g => by subst e1; exact ⟨x, _, rfl, h1, h2, h3, h4.append g⟩
theorem ER.cands : ∀ {es : List (AV × AV × Nat)} {l : List MapEntry}, ER L es l → CandL L (es.map some) (l.map some)
  | [], _, h => by cases h; rfl
  | _ :: _, _, ⟨x, xs, e1, h1, h2, h3, h4⟩ => by subst e1; exact ⟨some x, _, rfl, ⟨h1, h2, h3⟩, h4.cands⟩
theorem ER.isEmpty : ∀ {es : List (AV × AV × Nat)} {l : List MapEntry}, ER L es l → es.isEmpty = l.isEmpty
  | [], _, h => by cases h; rfl
  | _ :: _, _, ⟨x, xs, e1, _⟩ => by subst e1; rfl
theorem ER.all {p : AV × AV × Nat → Bool} {q : MapEntry → Bool} (hpq : ∀ (e : AV × AV × Nat) (x : MapEntry), e.2.2 = x.born → p e = q x) : ∀ {es : List (AV × AV × Nat)} {l : List MapEntry}, ER L es l → es.all p = l.all q
  | [], _, h => by cases h; rfl
  | e :: es, _, ⟨x, xs, e1, h1, h2, h3, h4⟩ => by subst e1; simp [hpq e x h3, ER.all hpq h4]
theorem CandL.length : ∀ {cs : List (Option (AV × AV × Nat))} {l : List (Option MapEntry)}, CandL L cs l → cs.length = l.length
  | [], _, h => by cases h; rfl
  | _ :: _, _, ⟨x, xs, e, _, k⟩ => by subst e; simp [k.length]
theorem CandL.get : ∀ {cs : List (Option (AV × AV × Nat))} {l : List (Option MapEntry)}, CandL L cs l → ∀ i, i < l.length → ∃ c x, cs[i]? = some c ∧ l[i]? = some x ∧ CandR L c x
  | [], _, h, i, hi => by cases h; simp at hi
  | c :: _, _, ⟨x, xs, e, hc, k⟩, 0, _ => by subst e; exact ⟨c, x, rfl, rfl, hc⟩
  | _ :: _, _, ⟨x, xs, e, hc, k⟩, i + 1, hi => by
    subst e
    obtain ⟨c, y, h1, h2, h3⟩ := k.get i (by simpa using hi)
    exact ⟨c, y, by simpa using h1, by simpa using h2, h3⟩
theorem CandL.none {cs : List (Option (AV × AV × Nat))} {l : List (Option MapEntry)} (h : CandL L cs l) : CandL L (none :: cs) (none :: l) := ⟨_, _, rfl, trivial, h⟩

/-- the entries that may come next -/
def candW (since : Nat) (seen : List Nat) (l : List MapEntry) : List (Option MapEntry) :=
  (match (l.filter fun e => !seen.contains e.born).filter fun e => decide (e.born < since) with | [] => [none] | _ => []) ++
    (((l.filter fun e => !seen.contains e.born).filter fun e => decide (e.born < since)) ++ ((l.filter fun e => !seen.contains e.born).filter fun e => decide (e.born ≥ since))).map some

theorem cand_sound {since : Nat} {seen : List Nat} {es : List (AV × AV × Nat)} {l : List MapEntry} (her : ER L es l) : CandL L (candOf since seen es) (candW since seen l) := by
  have hl : ER L (es.filter fun e => !seen.contains e.2.2) (l.filter fun e => !seen.contains e.born) := her.filter fun e x hx => by rw [hx]
  have ho : ER L ((es.filter fun e => !seen.contains e.2.2).filter fun e => Nat.blt e.2.2 since) ((l.filter fun e => !seen.contains e.born).filter fun e => decide (e.born < since)) :=
    hl.filter fun e x hx => by rw [hx, Bool.eq_iff_iff, blt_iff]; simp
  have hn : ER L ((es.filter fun e => !seen.contains e.2.2).filter fun e => Nat.ble since e.2.2) ((l.filter fun e => !seen.contains e.born).filter fun e => decide (e.born ≥ since)) :=
    hl.filter fun e x hx => by rw [hx, Bool.eq_iff_iff, ble_iff]; simp
  have hc := (ho.append hn).cands
  unfold candOf candW
  simp only
  generalize (es.filter fun e => !seen.contains e.2.2).filter (fun e => Nat.blt e.2.2 since) = O at *
  generalize (es.filter fun e => !seen.contains e.2.2).filter (fun e => Nat.ble since e.2.2) = N at *
  generalize (l.filter fun e => !seen.contains e.born).filter (fun e => decide (e.born < since)) = O' at *
  generalize (l.filter fun e => !seen.contains e.born).filter (fun e => decide (e.born ≥ since)) = N' at *
  have he := ho.isEmpty
  cases O' with
  | nil =>
    have : O.isEmpty = true := he
    rw [this]
    exact hc.none
  | cons x xs =>
    have : O.isEmpty = false := he
    rw [this]
    exact hc

theorem candW_pos (since : Nat) (seen : List Nat) (l : List MapEntry) : 0 < (candW since seen l).length := by
  unfold candW
  generalize (l.filter fun e => !seen.contains e.born).filter (fun e => decide (e.born < since)) = O'
  cases O' <;> simp

theorem candW_arr (since : Nat) (seen : List Nat) (arr : Array MapEntry) :
    (if ((arr.filter fun e => !seen.toArray.contains e.born).filter fun x => decide (x.born < since)).isEmpty then #[none] else #[]) ++
      ((arr.filter fun e => !seen.toArray.contains e.born).filter (fun x => decide (x.born < since)) ++ (arr.filter fun e => !seen.toArray.contains e.born).filter fun x => decide (x.born ≥ since)).map some = (candW since seen arr.toList).toArray := by
  have h1 : (arr.filter fun e => !seen.toArray.contains e.born).toList = arr.toList.filter fun e => !seen.contains e.born := by
    rw [Array.toList_filter]; simp
  have h2 : ((arr.filter fun e => !seen.toArray.contains e.born).filter fun x => decide (x.born < since)).toList = (arr.toList.filter fun e => !seen.contains e.born).filter fun e => decide (e.born < since) := by
    rw [Array.toList_filter, h1]
  have h3 : ((arr.filter fun e => !seen.toArray.contains e.born).filter fun x => decide (x.born ≥ since)).toList = (arr.toList.filter fun e => !seen.contains e.born).filter fun e => decide (e.born ≥ since) := by
    rw [Array.toList_filter, h1]
  unfold candW
  rw [← h2, ← h3]
  generalize (arr.filter fun e => !seen.toArray.contains e.born).filter (fun x => decide (x.born < since)) = A
  generalize (arr.filter fun e => !seen.toArray.contains e.born).filter (fun x => decide (x.born ≥ since)) = C
  apply Array.ext'
  obtain ⟨A⟩ := A
  cases A <;> simp

theorem choose_run (q : Question) : ∃ w', (choose q).run P w = .ok (if q.forced then 0 else q.cut (w.tape w.drawn q)) w' ∧ (w' = w ∨ w' = w.drew) := by
  cases hq : q.forced with
  | true => exact ⟨w, by simp [choose, Sem.run, hq], .inl rfl⟩
  | false => exact ⟨w.drew, by simp [choose, Sem.run, hq], .inr rfl⟩

theorem mapNext_lt {n : Nat} (h : 0 < n) (t : Nat) : (if (Question.mapNext n).forced then 0 else (Question.mapNext n).cut t) < n := by
  split
  · exact h
  · exact Nat.mod_lt _ h

theorem nextM_one (s : St B w0 E L h nx w) {r m since last clock : Nat} {seen : List Nat} {es : List (AV × AV × Nat)} {arr : Array MapEntry} {c d : Loc} (hr : h.get r = some (.iterM m since seen last)) (hc : L r = some c) (hoff : c.off = 0)
    (ho : w.heap[c.blk]? = some (.mapIter (some d.blk) since seen.toArray last)) (hd : L m = some d) (ho2 : w.heap[d.blk]? = some (.map arr clock)) (her : ER L es arr.toList)
    (hgone : (!seen.isEmpty && !es.isEmpty && es.all (fun e => Nat.ble last e.2.2)) = false) (hfl : E.floor ≤ r) (ty : TypeId) (b : Bool) (hb : b = false) :
    ∃ p ∈ (candOf since seen es).map (fun
        | none => ((.tuple [.bool false], h) : AV × Heap)
        | some e => (.tuple [.bool true, e.1, e.2.1], h.set r (.iterM m since (seen ++ [e.2.2]) clock))),
      Done P B w0 E (do pure (.value (← Instr.next (.pointer (some ⟨c.blk, c.off + 0, none⟩)) b ty))) L h nx w p.1 p.2 nx := by
  subst hb
  have hcs := cand_sound (since := since) (seen := seen) her
  have hpos := candW_pos since seen arr.toList
  obtain ⟨w', hch, hw'⟩ := choose_run (P := P) (w := w) (.mapNext (candW since seen arr.toList).length)
  have hlt := mapNext_lt hpos (w.tape w.drawn (.mapNext (candW since seen arr.toList).length))
  generalize hidx : (if (Question.mapNext (candW since seen arr.toList).length).forced then 0 else (Question.mapNext (candW since seen arr.toList).length).cut (w.tape w.drawn (.mapNext (candW since seen arr.toList).length))) = idx at hch hlt
  obtain ⟨ca, cx, g1, g2, g3⟩ := hcs.get idx hlt
  have hs' : St B w0 E L h nx w' := by
    rcases hw' with rfl | rfl
    · exact s
    · exact s.drew
  have hheap : w'.heap = w.heap := by rcases hw' with rfl | rfl <;> rfl
  have hgone' : (!seen.isEmpty && !arr.isEmpty && arr.toList.all (fun e => decide (e.born ≥ last))) = false := by
    have h1 := her.isEmpty
    have h2 : es.all (fun e => Nat.ble last e.2.2) = arr.toList.all (fun e => decide (e.born ≥ last)) := her.all fun e x hx => by rw [hx, Bool.eq_iff_iff, ble_iff]; simp
    rw [h1, h2] at hgone
    have h3 : arr.toList.isEmpty = arr.isEmpty := by cases arr with | mk l => cases l <;> rfl
    rw [h3] at hgone
    exact hgone
  have hget1 : (getObj c.blk).run P w = .ok (.mapIter (some d.blk) since seen.toArray last) w := getIter ho (by simp)
  have hget2 : (getObj d.blk).run P w = .ok (.map arr clock) w := getIter ho2 (by simp)
  rw [hoff]
  have hrun : (Instr.next (.pointer (some ⟨c.blk, 0 + 0, none⟩)) false ty).run P w = (match (candW since seen arr.toList)[idx]? with
      | some (some e) => (do setObj c.blk (.mapIter (some d.blk) since (seen.toArray.push e.born) clock); pure (.tuple #[.bool true, e.key, e.val]) : Sem Value)
      | some none => pure (.tuple #[.bool false])
      | none => stuck "Next: no such candidate").run P w' := by
    have hz : (0 + 0 : Nat) = 0 := rfl
    unfold Instr.next
    simp only [hz, Sem.run_bind, hget1, hget2, Result.andThen_ok]
    rw [candW_arr]
    have hall : (!seen.toArray.isEmpty && !arr.isEmpty && arr.all fun x => decide (x.born ≥ last)) = false := by
      rw [← hgone']
      have h4 : seen.toArray.isEmpty = seen.isEmpty := by cases seen <;> rfl
      rw [h4, ← Array.all_toList]
    rw [if_neg (by rw [hall]; simp)]
    simp only [List.size_toArray, Sem.run_bind, hch, Result.andThen_ok, List.getElem?_toArray]
    rfl
  rw [g2] at hrun
  have hmem : ca ∈ candOf since seen es := List.mem_of_getElem? g1
  refine ⟨_, List.mem_map.2 ⟨ca, hmem, rfl⟩, ?_⟩
  cases ca with
  | none => cases cx with
    | some x => cases g3
    | none => exact ⟨.value (.tuple #[.bool false]), _, w', L, by simp [hrun], .inl rfl, hs', Grow.refl .., ⟨_, rfl, _, _, rfl, rfl, rfl⟩⟩
  | some e => cases cx with
    | none => cases g3
    | some x =>
      obtain ⟨q1, q2, q3⟩ := g3
      obtain ⟨j1, j2, j3⟩ := hs'.turnObj (P := P) (ob := .mapIter (some d.blk) since seen.toArray last) (ob2 := .mapIter (some d.blk) since (seen.toArray.push x.born) clock) (o2 := .iterM m since (seen ++ [e.2.2]) clock) hr rfl hc (by simp) (by rw [hheap]; exact ho)
        ⟨hoff, d, hd, by rw [q3]; simp⟩ hfl
      simp only [Sem.run_bind, j1, Result.andThen_ok, Sem.run_pure] at hrun
      exact ⟨.value (.tuple #[.bool true, x.key, x.val]), _, _, L, by simp [hrun], .inl rfl, j2, j3, ⟨_, rfl, _, _, rfl, rfl, _, _, rfl, q1, _, _, rfl, q2, rfl⟩⟩

theorem anext_sound (s : St B w0 E L h nx w) {a : AV} {b : Bool} {x : Value} (ha : VR L a x) (ty : TypeId) : Outs P B w0 E (do pure (.value (← Instr.next x b ty))) L h nx w (anext E a b h nx) := by
  unfold anext
  split
  · trivial
  · split
    · split
      · split
        · rename_i r _ m since seen last hr _ es clock hm
          obtain ⟨c, hc, rfl⟩ := ha
          obtain ⟨o', ho, hoff, d, hd, rfl⟩ := s.m.obj _ _ c hr hc
          obtain ⟨o2, ho2, arr, rfl, her⟩ := s.m.obj _ _ d hm hd
          unfold nextM
          split
          · trivial
          · rename_i hfl
            have hfl' := blt_not.1 hfl
            split
            · trivial
            · rename_i hgone
              obtain ⟨p, hp, hdone⟩ := nextM_one (P := P) s hr hc hoff ho hd ho2 her (by simpa using hgone) (by omega) ty false rfl
              simp only
              split
              · rename_i cc hcc
                rw [hcc] at hp
                simp only [List.map_cons, List.map_nil, List.mem_singleton] at hp
                subst hp
                cases cc <;> exact hdone
              · refine ⟨p, ?_, hdone⟩
                obtain ⟨ca, h1, h2⟩ := List.mem_map.1 hp
                exact List.mem_map.2 ⟨ca, h1, by rw [← h2]; cases ca <;> rfl⟩
        · trivial
      · trivial
    · trivial
end
end Go.AX

namespace Go.AX
open Go Go.RowKit

/-- a value, or nothing -/
def R.plain : R → Prop
  | .val .. => True
  | .bad _ => True
  | _ => False
section
variable {P : Program} {E : Env} {B : Nat} {w0 : World} {L : Lay} {h : Heap} {nx : Nat} {w : World}
theorem Outs.of_plain {s : Sem Next} {r : R} (hp : r.plain) (hd : ∀ v h' nx', r = .val v h' nx' → Done P B w0 E s L h nx w v h' nx') : Outs P B w0 E s L h nx w r := by
  cases r <;> simp only [R.plain] at hp
  · exact hd _ _ _ rfl
  · trivial
theorem put_plain (v : AV) (b : Nat) (o : AObj) : (put E h nx v b o).plain := by unfold put; split <;> trivial
theorem oStore_plain (t : TypeId) (a v : AV) : (oStore E t a v h nx).plain := by
  unfold oStore
  split
  · split
    · trivial
    · unfold oStoreAt; repeat' split
      all_goals trivial
  · trivial
theorem amapSet_plain (t : TypeId) (x k v : AV) : (amapSet E t x k v h nx).plain := by
  unfold amapSet; repeat' split
  all_goals first | trivial | exact put_plain ..
theorem amapEntry_plain (t : TypeId) (x k : AV) : (amapEntry E t x k h nx).plain := by
  unfold amapEntry; repeat' split
  all_goals first | trivial | exact put_plain ..
theorem aentryStore_plain (x s v : AV) : (aentryStore E x s v h nx).plain := by
  unfold aentryStore; repeat' split
  all_goals first | trivial | exact put_plain ..
theorem adelete_plain (t : TypeId) (x k : AV) : (adelete E t x k h nx).plain := by
  unfold adelete; repeat' split
  all_goals first | trivial | exact put_plain ..
theorem acopy_plain (t : TypeId) (d s : AV) : (acopy E t d s h nx).plain := by
  unfold acopy; repeat' split
  all_goals trivial
theorem astring_plain (t : TypeId) (b o n : Nat) : (astring E t b o n h nx).plain := by
  unfold astring; repeat' split
  all_goals first | trivial | exact put_plain ..
theorem aopen_plain (b off sl n esz : Nat) (el : TypeId) (new : List AV) : (aopen E b off sl n esz el new h nx).plain := by
  unfold aopen; repeat' split
  all_goals trivial
theorem afresh_plain (b off sl n esz : Nat) (el : TypeId) (new : List AV) : (afresh b off sl n esz el new h nx).plain := by
  unfold afresh; repeat' split
  all_goals trivial
theorem aappendTo_plain (s : AV) (el : TypeId) (esz n : Nat) (new : List AV) : (aappendTo E s el esz n new h nx).plain := by
  unfold aappendTo; repeat' split
  all_goals first | trivial | exact aopen_plain .. | exact afresh_plain .. | (rw [force_eq]; trivial)
theorem aappend_plain (t : TypeId) (z : Bool) (s x : AV) : (aappend E t z s x h nx).plain := by
  unfold aappend; repeat' split
  all_goals first | trivial | exact aappendTo_plain ..

/-! #### unsafe.String -/
theorem loadBytes_run {k : Nat} : ∀ (ns : List Int) (o : Nat) (acc : ByteArray), w.rangeAt k o (ns.map (Value.int .u8)) →
    (loadBytes ⟨k, o, none⟩ acc ns.length).run P w = .ok (ns.foldl (fun r n => r.push (UInt8.ofNat n.toNat)) acc) w
  | [], _, _, _ => rfl
  | n :: ns, o, acc, hr => by
    have h0 : w.cell? ⟨k, o, none⟩ = some (.int .u8 n) := by simpa using hr 0 (.int .u8 n) (by simp)
    have hl : (load ⟨k, o, none⟩).run P w = .ok (.int .u8 n) w := by simp [load, Sem.run, h0]
    have ih := loadBytes_run ns (o + 1) (acc.push (UInt8.ofNat n.toNat)) (fun j v hj => by
      have := hr (j + 1) v (by simpa using hj)
      rw [show o + 1 + j = o + (j + 1) by omega]; exact this)
    simp only [List.length_cons, List.foldl_cons, loadBytes, Sem.run_bind, hl, Result.andThen_ok]
    have ha : (⟨k, o, none⟩ : Addr).add 1 = ⟨k, o + 1, none⟩ := by simp [Addr.add]
    rw [ha]
    exact ih
theorem rowAt_more (p : Program) {fits : TypeId → Bool} {u : TypeId} {count o n : Nat} (hc : p.cellsOf u = 1) (hn : o + n ≤ count) (hf : fits u = true) (k : Nat) : rowAt p fits (k + 1) u count o n = true := by
  unfold rowAt
  simp only [hc, Nat.div_one, Nat.mod_one]
  simp [hf, hn]
theorem liesAt_more (p : Program) {u : TypeId} {count o n : Nat} (hc : p.cellsOf u = 1) (hn : o + n ≤ count) : liesAt p p.depth u count o u n = true := by
  obtain ⟨k, hk⟩ := depth_succ p
  have h1 : rowAt p (sameLayout p p.depth · u) p.depth u count o n = true := by
    rw [hk]
    exact rowAt_more (fits := fun x => sameLayout p (k + 1) x u) p hc hn (sameLayout_refl p k u) k
  rw [hk] at h1 ⊢
  unfold liesAt
  rw [hk, h1]
  rfl
theorem unsafeString_eq (ats : Array TypeId) (ty : TypeId) (p : Option Addr) (len : Value) : Builtin.unsafeString_ ats ty #[.pointer p, len] = (do
    let n ← asInt len
    let some pt := ats[0]? | stuck "unsafe.String: no argument types"
    if n < 0 then runtimePanic (.error "unsafe.String: len out of range")
    if n > IntKind.i64.max then unsupported (.unsafePointer "String: a length above the largest int")
    match p with
    | none =>
      if n = 0 then pure (.string .empty)
      else runtimePanic (.error "unsafe.String: ptr is nil and len is not zero")
    | some a =>
      if n = 0 then pure (.string .empty)
      else if ← variablesAt a (← elemOf pt) n.toNat then do
        let s ← loadBytes a .empty n.toNat
        freeze a n.toNat
        pure (.string s)
      else unsupported (.unsafePointer "String: not so many bytes at ptr")) := rfl
theorem freeze_run (a : Addr) (n : Nat) : (freeze a n).run P w = .ok () (w.freeze a n) := rfl

theorem astring_sound (H : EnvOk P E) (s : St B w0 E L h nx w) {pt : TypeId} {ts : List TypeId} {b off n : Nat} {k : IntKind} {r : AV} {h' : Heap} {nx' : Nat} (e : astring E pt b off (n + 1) h nx = .val r h' nx') {x : Value} (ha : VR L (.ptr b off) x) (ty : TypeId) :
    Done P B w0 E (do pure (.value (← Builtin.unsafeString_ (pt :: ts).toArray ty #[x, .int k (Int.ofNat (n + 1))]))) L h nx w r h' nx' := by
  unfold astring at e
  split at e
  · rename_i el htk
    obtain ⟨d, hd, hk⟩ := H.tk htk
    simp only [TKR] at hk; subst hk
    split at e
    · rename_i l ex e2 fz ro ei hb htk2 hei
      split at e
      · rename_i hok
        simp only [Bool.and_eq_true, Bool.not_eq_true', beq_iff, blt_iff] at hok
        obtain ⟨⟨⟨⟨q1, q2⟩, q3⟩, q4⟩, q5⟩ := hok
        subst q1; subst q2
        split at e
        · rename_i cs hcs
          split at e
          · rename_i v hv
            obtain ⟨k1, k2, k3, k4⟩ := put_val e
            subst k2; subst k3; subst k4
            obtain ⟨c, hc, rfl⟩ := ha
            obtain ⟨vs, g1, g2, g3⟩ := s.m.cut hb hc hcs
            obtain ⟨ns, rfl, g4⟩ := packCells_ints hv g2
            have hvr := g4 ByteArray.empty rfl rfl
            obtain ⟨arr, fr, xs, rest, h1, h2, h3, h4, h5, h6, h7, h8⟩ := s.m.cells hb hc
            have hfit : c.off + off + (n + 1) ≤ arr.size := by
              obtain ⟨z1, z2⟩ := h4.cut hcs
              have := congrArg List.length h3
              simp at this
              omega
            have hnl : ns.length = n + 1 := by simpa using g1
            have hl := loadBytes_run (P := P) ns (c.off + off) ByteArray.empty g3
            rw [hnl] at hl
            obtain ⟨inf, hinf, _, hi3, _⟩ := H.info hei
            have hcells : P.cellsOf e2 = 1 := by simp [Program.cellsOf, hinf, hi3, q4]
            have hlie : liesAt P P.depth e2 (arr.size / P.cellsOf e2) (c.off + off) e2 (n + 1) = true := by
              apply liesAt_more _ hcells
              rw [hcells, Nat.div_one]; exact hfit
            have hwf : (w.freeze ⟨c.blk, c.off + off, none⟩ (n + 1)).heap[c.blk]? = some (.cells arr e2 (if fr.1 == fr.2 then (c.off + off, c.off + off + (n + 1)) else (min fr.1 (c.off + off), max fr.2 (c.off + off + (n + 1))))) := by
              simp [World.freeze, Array.getElem?_modify, h1]
            have hother : ∀ j, j ≠ c.blk → (w.freeze ⟨c.blk, c.off + off, none⟩ (n + 1)).heap[j]? = w.heap[j]? := by
              intro j hj
              simp [World.freeze, Array.getElem?_modify, Ne.symm hj]
            have hB : B ≤ c.blk := (s.m.own b _ c hb hc).resolve_left (by simp [AObj.ro])
            have hbel : Below B w (w.freeze ⟨c.blk, c.off + off, none⟩ (n + 1)) := by
              refine ⟨by simp [World.freeze], by simp [World.freeze], by simp [World.freeze], by simp [World.freeze], fun j hj => hother j (by omega)⟩
            have hm := s.m.turn (o2 := .cells l ex e2 2 false) hb hc rfl hbel hother hwf ⟨arr, _, rfl, h2, ⟨xs, rest, h3, h4, h5⟩, fun q => (by cases q), fun q => (by cases q), h8⟩
            refine Done.value (w' := w.freeze ⟨c.blk, c.off + off, none⟩ (n + 1)) ?_ (s.set hm) ⟨Lay.le_refl L, Nat.le_refl _, kept_set k1, fun _ _ => rfl⟩ hvr
            have hn1 : ¬ (Int.ofNat (n + 1) < 0) := by simp; omega
            have hn2 : ¬ (Int.ofNat (n + 1) > IntKind.i64.max) := by
              have : IntKind.i64.max = 9223372036854775807 := rfl
              rw [this]; simp; omega
            have hn3 : ¬ (Int.ofNat (n + 1) = 0) := by simp; omega
            have hn4 : (Int.ofNat (n + 1)).toNat = n + 1 := rfl
            have he0 : (elemOf pt).run P w = .ok e2 w := by simp [elemOf, hd w]
            have hva : (variablesAt ⟨c.blk, c.off + off, none⟩ e2 (n + 1)).run P w = .ok true w := by
              simp [variablesAt, shape, Sem.run, World.shape?, h1, hlie]
            rw [unsafeString_eq]
            simp only [asInt, asIntOf, Sem.run_bind, Sem.run_pure, Result.andThen_ok, List.getElem?_toArray, List.getElem?_cons_zero, if_neg hn1, if_neg hn2, if_neg hn3, hn4, he0, hva, if_true, hl, freeze_run]
          · cases e
        · cases e
      · cases e
    · cases e
  · cases e

/-! #### The built-in functions that change something -/
theorem aloudBuiltin_sound (H : EnvOk P E) (s : St B w0 E L h nx w) {b : Builtin} {ts : Array TypeId} {as : List AV} {us : Array Value} (ha : VRL L as us.toList) (ty : TypeId) (cs : Array Bool) :
    Outs P B w0 E (builtin b ts ty cs us) L h nx w (aloudBuiltin E b ts.toList as h nx) := by
  obtain ⟨ts⟩ := ts
  obtain ⟨us⟩ := us
  simp only at ha
  cases b <;> try exact trivial
  case append =>
    unfold aloudBuiltin
    simp only
    split
    · rename_i st xt s' x'
      obtain ⟨v1, vs1, rfl, hv1, v2, vs2, rfl, hv2, hn⟩ := ha
      cases hn
      have go : ∀ (z : Bool) (xt' : TypeId) (rest : List TypeId), xt = xt' :: rest → ((z = true ∧ ∃ q, tk E xt' = some (.int q)) ∨ (z = false ∧ (tk E xt' = some .str ∨ ∃ q, tk E xt' = some (.slice q)))) →
          Outs P B w0 E (builtin .append ⟨st :: xt⟩ ty cs #[v1, v2]) L h nx w (aappend E st z s' x' h nx) := by
        intro z xt' rest e hz
        subst e
        exact Outs.of_plain (aappend_plain ..) fun v h' nx' e => aappend_sound H s e hz hv1 hv2
      split
      · rename_i xt' rest
        split
        · rename_i q hq; exact go true xt' rest rfl (.inl ⟨rfl, q, hq⟩)
        · rename_i q hq; exact go false xt' rest rfl (.inr ⟨rfl, .inr ⟨q, hq⟩⟩)
        · rename_i hq; exact go false xt' rest rfl (.inr ⟨rfl, .inl hq⟩)
        · trivial
      · trivial
    · trivial
  case delete =>
    unfold aloudBuiltin
    simp only
    split
    · obtain ⟨v1, vs1, rfl, hv1, v2, vs2, rfl, hv2, hn⟩ := ha
      cases hn
      exact Outs.of_plain (adelete_plain ..) fun v h' nx' e => adelete_sound H s e hv1 hv2 ty
    · trivial
  case copy =>
    unfold aloudBuiltin
    simp only
    split
    · obtain ⟨v1, vs1, rfl, hv1, v2, vs2, rfl, hv2, hn⟩ := ha
      cases hn
      exact Outs.of_plain (acopy_plain ..) fun v h' nx' e => acopy_sound H s e hv1 hv2 ty
    · trivial
  case clear =>
    unfold aloudBuiltin
    simp only
    split
    · obtain ⟨v1, vs1, rfl, hv1, hn⟩ := ha
      cases hn
      split
      · rename_i el htk
        split
        · rename_i ei hei
          split
          · rename_i hsz
            simp only [Bool.and_eq_true, beq_iff] at hsz
            split
            · rename_i h2 hst
              exact clear_sound H s htk hei hsz.1 hst hv1 ty
            · trivial
          · trivial
        · trivial
      · trivial
    · trivial
  case unsafeString =>
    unfold aloudBuiltin
    simp only
    split
    · obtain ⟨v1, vs1, rfl, hv1, v2, vs2, rfl, hv2, hn⟩ := ha
      cases hn
      simp only [VR] at hv2; subst hv2
      exact Outs.of_plain (astring_plain ..) fun v h' nx' e => astring_sound H s e hv1 ty
    · obtain ⟨v1, vs1, rfl, hv1, v2, vs2, rfl, hv2, hn⟩ := ha
      cases hn
      simp only [VR] at hv1 hv2; subst hv1; subst hv2
      refine Done.value (val := .string .empty) (w' := w) ?_ s (Grow.refl ..) ⟨_, rfl, rfl, rfl⟩
      rw [unsafeString_eq]
      have hmx : ¬ ((0 : Int) > IntKind.i64.max) := by decide
      have hz : Int.ofNat 0 = 0 := rfl
      simp only [asInt, asIntOf, Sem.run_bind, Sem.run_pure, Result.andThen_ok, List.getElem?_toArray, List.getElem?_cons_zero, hz, Int.lt_irrefl, if_false, if_true, hmx]
    · trivial
  case recover => rfl

theorem aloud_sound (H : EnvOk P E) (s : St B w0 E L h nx w) {r : Operand → AV} {ρ : Operand → Value} {o : Oper} (hx : ∀ x ∈ o.op.operands, VR L (r x) (ρ x)) :
    Outs P B w0 E (execOp ρ o) L h nx w (aloud E r o.op h nx) := by
  obtain ⟨dst, op, ty, pos, after, guard⟩ := o
  simp only at hx ⊢
  cases op <;> try exact trivial
  case assign x =>
    exact ⟨.value (ρ x), ρ x, w, L, rfl, .inl rfl, s, Grow.refl .., hx x (by simp [Op.operands])⟩
  case store t a x => exact Outs.of_plain (oStore_plain ..) fun v h' nx' e => oStore_sound H s e (hx a (by simp [Op.operands])) (hx x (by simp [Op.operands]))
  case mapUpdate t m k x => exact Outs.of_plain (amapSet_plain ..) fun v h' nx' e => amapSet_sound H s e (hx m (by simp [Op.operands])) (hx k (by simp [Op.operands])) (hx x (by simp [Op.operands]))
  case insert t m k x => exact Outs.of_plain (amapSet_plain ..) fun v h' nx' e => amapSet_sound H s e (hx m (by simp [Op.operands])) (hx k (by simp [Op.operands])) (hx x (by simp [Op.operands]))
  case mapEntry t m k => exact Outs.of_plain (amapEntry_plain ..) fun v h' nx' e => amapEntry_sound H s e (hx m (by simp [Op.operands])) (hx k (by simp [Op.operands]))
  case entryStore t m k x => exact Outs.of_plain (aentryStore_plain ..) fun v h' nx' e => aentryStore_sound s e (hx m (by simp [Op.operands])) (hx k (by simp [Op.operands])) (hx x (by simp [Op.operands]))
  case next it str => exact anext_sound s (hx it (by simp [Op.operands])) ty
  case call c =>
    show Outs P B w0 E (execOp ρ ⟨dst, .call c, ty, pos, after, guard⟩) L h nx w (oCall E r c h nx)
    unfold oCall
    have hargs := args_cells (L := L) (r := r) (ρ := ρ) (args := c.args) fun x hq => hx x (by simp [Op.operands, Call.operands, hq])
    split
    · rename_i b hb
      refine Outs.congr ?_ (aloudBuiltin_sound (P := P) H s (us := c.args.map ρ) hargs ty (c.args.map fun | .const _ => true | _ => false))
      simp only [execOp, resolve, hb, Sem.run_bind, Sem.run_pure, Result.andThen_ok, invoke]
      rfl
    · rename_i rv m hm
      refine Outs.congr ?_ (ainvoke_sound (P := P) H s (args := c.args.map ρ) (hx rv (by simp [Op.operands, Call.operands, hm])) hargs)
      simp only [execOp, resolve, hm, Sem.run_bind, Sem.run_pure, Result.andThen_ok]
    · rename_i g hg
      refine Outs.congr ?_ (acallValue_sound (P := P) H s (args := c.args.map ρ) (hx g (by simp [Op.operands, Call.operands, hg])) hargs)
      simp only [execOp, resolve, hg, Sem.run_bind]
  case defer c =>
    have := adefer_sound (P := P) (w := w) (L := L) (r := r) (ρ := ρ) (c := c) (ty := ty) fun x hq => hx x (by simpa [Op.operands] using hq)
    show Outs P B w0 E (execOp ρ ⟨dst, .defer c, ty, pos, after, guard⟩) L h nx w (adefer r c)
    split at this
    · rename_i d hd
      rw [hd]
      obtain ⟨d', h1, h2⟩ := this
      exact ⟨d', by simp [execOp, h1], h2⟩
    · rename_i q hd; rw [hd]; trivial
    · exact this.elim

theorem aop_sound (H : EnvOk P E) (s : St B w0 E L h nx w) {r : Operand → AV} {ρ : Operand → Value} {o : Oper} (hx : ∀ x ∈ o.op.operands, VR L (r x) (ρ x)) :
    Outs P B w0 E (execOp ρ o) L h nx w (aop E r o.op h nx) := by
  unfold aop
  split
  · exact aloud_sound H s hx
  · cases hq : aquiet E r o.op h with
    | val v =>
      obtain ⟨val, h1, h2⟩ := aquiet_val H s.m hq hx
      exact ⟨_, val, w, L, h1, .inl rfl, s, Grow.refl .., h2⟩
    | make x k =>
      obtain ⟨n, obj, sz, val, h1, h2⟩ := aquiet_make H s.m hq hx
      have hfr := s.fresh nx (Nat.le_refl _)
      obtain ⟨q1, q2⟩ := h2 (L.put nx ⟨w.heap.size, 0, sz⟩) nx (Lay.le_put L _ hfr) (Lay.put_same ..)
      exact ⟨_, val, _, L.put nx ⟨w.heap.size, 0, sz⟩, h1, .inl rfl, ⟨(s.m.alloc hfr rfl q1).drewN n, fun b hb => by rw [Lay.put_other _ _ (by omega)]; exact s.fresh b (by omega), by have := s.fl; omega⟩,
        ⟨Lay.le_put L _ hfr, by omega, kept_set s.fl, fun b hb => Lay.put_other _ _ (by omega)⟩, q2⟩
    | bad _ => trivial
end
end Go.AX

