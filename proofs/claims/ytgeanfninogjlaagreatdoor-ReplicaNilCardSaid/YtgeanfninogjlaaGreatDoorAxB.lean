/-
  The executor: each operation that changes nothing is right.
  Of whatever program; no condition.
-/
import Derived.Test.YtgeanfninogjlaaGreatDoorAxA
import Derived.Laws.BytesString
set_option linter.unusedVariables false
set_option linter.unusedSimpArgs false
set_option linter.unusedSectionVars false
namespace Go.AX
open Go Go.RowKit

/-- what an operation with one answer comes to -/
def Ans (P : Program) (s : Sem Value) (w : World) (L : Lay) (v : AV) : Prop := ∃ val, s.run P w = .ok val w ∧ VR L v val
theorem qOpt_val {r : Option AV} {why : String} {v : AV} (h : qOpt r why = .val v) : r = some v := by
  unfold qOpt at h; split at h
  · injection h with h; subst h; rfl
  · cases h

section
variable {P : Program} {E : Env} (H : EnvOk P E) {B : Nat} {w0 : World} {L : Lay} {h : Heap} {w : World}

theorem nthF_some {fields : List Field} {n : Nat} {p : TypeId × Nat} (e : nthF (fields.map fun f => (f.type, f.offset)) n = some p) :
    ∃ f, fields[n]? = some f ∧ f.type = p.1 ∧ f.offset = p.2 := by
  induction fields generalizing n with
  | nil => cases n <;> simp [nthF] at e
  | cons f fs ih => cases n with
    | zero => simp [nthF] at e; subst e; exact ⟨f, rfl, rfl, rfl⟩
    | succ n => simp only [List.map_cons, nthF] at e; exact ih e

theorem oPick_sound {c a b v : AV} (e : oPick c a b = .val v) {x y z : Value} (hc : VR L c x) (ha : VR L a y) (hb : VR L b z) :
    Ans P (do pure (if ← asBool x then y else z)) w L v := by
  unfold oPick at e
  split at e <;> try (cases e; done)
  · simp only [VR] at hc; subst hc; injection e with e; subst e; exact ⟨y, by simp [asBool], ha⟩
  · simp only [VR] at hc; subst hc; injection e with e; subst e; exact ⟨z, by simp [asBool], hb⟩

include H in
theorem oLoad_sound (m : MR B w0 L h w) {t : TypeId} {a v : AV} (e : oLoad E t a h = .val v) {x : Value} (ha : VR L a x) : Ans P (Instr.loadAt t x) w L v := by
  unfold oLoad at e
  split at e
  · split at e
    · rename_i hb
      obtain ⟨c, hc, rfl⟩ := ha
      obtain ⟨val, h1, h2⟩ := loadVar_sound H m hb hc (qOpt_val e)
      exact ⟨val, by simp [Instr.loadAt, Instr.sureAddr, h1], h2⟩
    · cases e
  · cases e

include H in
theorem oFieldAddr_sound {t : TypeId} {a v : AV} {f : Nat} (e : oFieldAddr E t a f = .val v) {x : Value} (ha : VR L a x) : Ans P (Instr.fieldAt t x f) w L v := by
  unfold oFieldAddr at e
  split at e
  · split at e
    · rename_i fs htk
      split at e
      · rename_i p hp
        split at e
        · rename_i fi hfi
          split at e
          · rename_i hz
            rw [force_eq] at e
            injection e with e; subst e
            obtain ⟨c, hc, rfl⟩ := ha
            obtain ⟨d, hd, fields, rfl, rfl⟩ := H.tk htk
            obtain ⟨fl, h1, h2, h3⟩ := nthF_some hp
            have h1' : fields[f]? = some fl := by simpa using h1
            refine ⟨_, ?_, c, hc, rfl⟩
            have hz' := beq_not.1 hz
            rw [← h2] at hfi
            simp [Instr.fieldAt, hd w, h1', Instr.sureAddr, fieldPlace, H.size hfi, hz', Addr.add_mid, h3, Nat.add_assoc]
          · cases e
        · cases e
      · cases e
    · cases e
  · cases e

include H in
theorem oField_sound {t : TypeId} {a v : AV} {f : Nat} (e : oField E t a f = .val v) {x : Value} (ha : VR L a x) : Ans P (Instr.field t x f) w L v := by
  unfold oField at e
  split at e
  · split at e
    · rename_i fs htk
      split at e
      · rename_i p hp
        obtain ⟨cs, rfl, hcs⟩ := ha
        obtain ⟨d, hd, fields, rfl, rfl⟩ := H.tk htk
        obtain ⟨fl, h1, h2, h3⟩ := nthF_some hp
        have h1' : fields[f]? = some fl := by simpa using h1
        have e' := qOpt_val e
        rw [← h2, ← h3] at e'
        obtain ⟨val, h4, h5⟩ := part_sound H e' hcs w
        exact ⟨val, by simp [Instr.field, hd w, h1', asAgg, h4], h5⟩
      · cases e
    · cases e
  · cases e

theorem slice_addr {c : Loc} {a : Addr} {o cp i z : Nat} (h : cp = 0 ∨ a = ⟨c.blk, c.off + o, none⟩) (hi : i < cp) : a.add (i * z) = ⟨c.blk, c.off + (o + i * z), none⟩ := by
  rcases h with h | h
  · omega
  · subst h; rw [Addr.add_mid, Nat.add_assoc]

include H in
theorem oIndexAddr_sound {t : TypeId} {a i v : AV} (e : oIndexAddr E t a i = .val v) {x y : Value} (ha : VR L a x) (hi : VR L i y) : Ans P (Instr.indexAt t x y) w L v := by
  unfold oIndexAddr at e
  split at e
  · rename_i k n
    simp only [VR] at hi; subst hi
    split at e
    · rename_i len el htk
      obtain ⟨d, hd, hk⟩ := H.tk htk
      simp only [TKR] at hk; subst hk
      split at e
      · split at e
        · rename_i ei hei
          split at e
          · rename_i hlt
            rw [force_eq] at e
            injection e with e; subst e
            have hlt' := blt_iff.1 hlt
            obtain ⟨c, hc, rfl⟩ := ha
            refine ⟨_, ?_, c, hc, rfl⟩
            have h1 : (0 : Int) ≤ n ∧ (n : Int) < len := by omega
            simp [Instr.indexAt, asIntOf, hd w, Instr.sureAddr, h1, H.size hei, Addr.add_mid, Nat.add_assoc]
            intro hcon; omega
          · cases e
        · cases e
      · cases e
    · rename_i el htk
      obtain ⟨d, hd, hk⟩ := H.tk htk
      simp only [TKR] at hk; subst hk
      split at e
      · split at e
        · rename_i ei hei
          split at e
          · rename_i hlt
            have hlt' := blt_iff.1 hlt
            rw [force_eq] at e
            injection e with e; subst e
            obtain ⟨c, a, cp, hc, rfl, hadr, hlen, _⟩ := ha
            refine ⟨_, ?_, c, hc, rfl⟩
            have h1 := And.intro (Int.natCast_nonneg n) (Int.ofNat_lt.2 hlt')
            have h2 : n < cp := Nat.lt_of_lt_of_le hlt' hlen
            simp [Instr.indexAt, asIntOf, hd w, h1, hlt', H.size hei, slice_addr (z := ei.size) hadr h2]
          · cases e
        · cases e
      · cases e
    · cases e
  · cases e

theorem str_index {s : ByteArray} {i : Nat} (hi : i < s.size) : ∃ b : UInt8, s[i]? = some b ∧ sByte s.size (packN (bytesN s)) i = b.toNat := by
  have hl : i < (bytesN s).length := by rw [bytesN_length]; exact hi
  refine ⟨s[i], by simp [hi], ?_⟩
  have h1 := sByte_eq (bytesN s) i (bytesN_lt s) hl
  have h2 : sByte s.size (packN (bytesN s)) i = sByte (bytesN s).length (packN (bytesN s)) i := by rw [bytesN_length]
  rw [h2, h1]
  simp only [bytesN, List.getElem_map, Array.getElem_toList]
  rfl

include H in
theorem oIndex_sound {t : TypeId} {a i v : AV} (e : oIndex E t a i = .val v) {x y : Value} (ha : VR L a x) (hi : VR L i y) : Ans P (Instr.index t x y) w L v := by
  unfold oIndex at e
  split at e
  · rename_i k n
    simp only [VR] at hi; subst hi
    split at e
    · rename_i sn ss
      split at e
      · rename_i htk
        obtain ⟨d, hd, hk⟩ := H.tk htk
        simp only [TKR] at hk; subst hk
        split at e
        · rename_i hlt
          have hlt' := blt_iff.1 hlt
          injection e with e; subst e
          obtain ⟨s, rfl, hs1, hs2⟩ := ha
          subst hs1; subst hs2
          obtain ⟨b, q1, q2⟩ := str_index hlt'
          rw [mkInt_eq]
          refine ⟨.int .u8 b.toNat, ?_, ?_⟩
          · simp [Instr.index, asIntOf, hd w, q1]
          · simp only [VR]
            rw [q2]; rfl
        · cases e
      · cases e
    · split at e
      · rename_i len el htk
        obtain ⟨d, hd, hk⟩ := H.tk htk
        simp only [TKR] at hk; subst hk
        split at e
        · rename_i ei hei
          split at e
          · rename_i hlt
            have hlt' := blt_iff.1 hlt
            obtain ⟨cs, rfl, hcs⟩ := ha
            obtain ⟨val, h4, h5⟩ := part_sound H (qOpt_val e) hcs w
            refine ⟨val, ?_, h5⟩
            have h1 : (0 : Int) ≤ n ∧ (n : Int) < len := by omega
            simp [Instr.index, asIntOf, hd w, h1, H.size hei, h4]
            intro hcon; omega
          · cases e
        · cases e
      · cases e
    · cases e
  · cases e

theorem oExtract_sound {a v : AV} {i : Nat} (e : oExtract a i = .val v) {x : Value} (ha : VR L a x) : Ans P (Instr.extract x i) w L v := by
  unfold oExtract at e
  split at e
  · obtain ⟨cs, rfl, hcs⟩ := ha
    obtain ⟨val, h1, h2⟩ := hcs.get (qOpt_val e)
    have h1' : cs[i]? = some val := by simpa using h1
    exact ⟨val, by simp [Instr.extract, h1'], h2⟩
  · cases e

include H in
theorem oTypeAssert_sound {a v : AV} {t xt : TypeId} {ok : Bool} (e : oTypeAssert E a t ok = .val v) {x : Value} (ha : VR L a x) : Ans P (Instr.typeAssert x xt t ok) w L v := by
  unfold oTypeAssert at e
  split at e
  · cases e
  · rename_i ti hti
    obtain ⟨d, hd, hk⟩ := H.under hti
    obtain ⟨z, hz, hzr, _⟩ := H.zero hti
    split at e
    · simp only [VR] at ha; subst ha
      split at e
      · injection e with e; subst e
        refine ⟨.tuple #[z, .bool false], ?_, _, rfl, _, _, rfl, hzr L, _, _, rfl, rfl, rfl⟩
        cases d <;> simp [Instr.typeAssert, hd w, hz w]
      · cases e
    · rename_i u a'
      obtain ⟨y, rfl, hy⟩ := ha
      split at e
      · cases e
      · rename_i hni
        have hni' : ∀ ms, d ≠ .interface ms := hk.notIface (fun q => hni q)
        have hgo : ∀ r, (Instr.typeAssert (.iface u y) xt t ok).run P w = r ↔
            (if u = t then (Pure.pure (if ok then .tuple #[y, .bool true] else y) : Sem Value) else (if ok then do pure (.tuple #[← zeroValue t, .bool false]) else runtimePanic (.typeAssertion (some xt) (some u) t ""))).run P w = r := by
          intro r
          cases d <;> first
            | exact absurd rfl (hni' _)
            | (simp only [Instr.typeAssert, Sem.run_bind, hd w, Result.andThen_ok, Sem.run_ite])
            | (simp only [Instr.typeAssert, Sem.run_bind, hd w, Result.andThen_ok, Sem.run_ite]; rfl)
        split at e
        · rename_i hq
          have hq' := beq_iff.1 hq
          subst hq'
          split at e
          · injection e with e; subst e
            exact ⟨_, by rw [hgo]; simp, _, rfl, _, _, rfl, hy, _, _, rfl, rfl, rfl⟩
          · injection e with e; subst e
            exact ⟨_, by rw [hgo]; simp, hy⟩
        · rename_i hq
          have hq' := beq_not.1 hq
          split at e
          · injection e with e; subst e
            exact ⟨_, by rw [hgo]; simp [hq', hz w], _, rfl, _, _, rfl, hzr L, _, _, rfl, rfl, rfl⟩
          · cases e
    · cases e

include H in
theorem oMakeInterface_sound {a v : AV} {t : TypeId} (e : oMakeInterface E t a = .val v) {x : Value} (ha : VR L a x) : Ans P (Instr.makeInterface t x) w L v := by
  unfold oMakeInterface at e
  split at e
  · cases e
  · rename_i k hni htk
    obtain ⟨d, hd, hk⟩ := H.tk htk
    have hni' := hk.notIface (fun q => hni (by rw [← q]))
    injection e with e; subst e
    refine ⟨.iface t x, ?_, x, rfl, ha⟩
    cases d <;> first
      | exact absurd rfl (hni' _)
      | simp [Instr.makeInterface, hd w]
  · cases e

theorem eqGuard_plain {op : BinOp} {t : TypeId} {x y : Operand} {u z : Value} (h1 : ∀ a, u ≠ .agg a) (h2 : u ≠ .nilIface) : (eqGuard op t x y u z).run P w = .ok () w := by
  cases op <;> simp [eqGuard] <;> split <;> simp_all

theorem guard_nil' (k : Nat) {t : TypeId} {d : TypeDesc} (hd : P.underlying t = some d) (hm : P.eqGuardType P.depth t = false) : (Op.eqGuardIn (k + 1) t .nilIface .nilIface).run P w = .ok false w := by
  have : P.depth = (2 * (P.types.size + Made.depth) + 1) + 1 := rfl
  rw [this] at hm
  simp only [Program.eqGuardType, hd] at hm
  simp only [Op.eqGuardIn, Sem.run_bind, run_underlying hd, Result.andThen_ok]
  cases d with
  | interface ms => simp only [Sem.run_pure]; simp only at hm; rw [hm]
  | _ => rfl
theorem guard_nil {t : TypeId} {d : TypeDesc} (hd : P.underlying t = some d) (hm : P.eqGuardType P.depth t = false) : (Op.eqGuardIn Op.maxDepth t .nilIface .nilIface).run P w = .ok false w :=
  guard_nil' 9999 hd hm

theorem eqGuard_ok {op : BinOp} {t : TypeId} {x y : Operand} {a b : AV} {u z : Value} (gf : gfree E t = true → P.eqGuardType P.depth t = false ∧ ∃ d, P.underlying t = some d)
    (hg : guardOk E (isCst x || isCst y) t a b = true) (ha : VR L a u) (hb : VR L b z) : (eqGuard op t x y u z).run P w = .ok () w := by
  have other : (∀ c, u ≠ .agg c) → u ≠ .nilIface → (eqGuard op t x y u z).run P w = .ok () w := fun h1 h2 => eqGuard_plain h1 h2
  cases a <;> simp only [VR] at ha <;> simp only [guardOk] at hg
  case top => cases hg
  case agg l =>
    obtain ⟨cs, rfl, _⟩ := ha
    have hm := (gf hg).1
    cases z with
    | agg ys => exact run_eqGuard_agg w op t x y cs ys hm
    | _ => cases op <;> simp [eqGuard]
  case nili =>
    subst ha
    cases z with
    | nilIface =>
      have hq : (isCst x || isCst y) = true ∨ gfree E t = true := by
        cases b <;> simp only [VR] at hb <;> simp_all
      have hnil : gfree E t = true → (Op.eqGuardIn Op.maxDepth t .nilIface .nilIface).run P w = .ok false w := fun h => let ⟨h1, d, h2⟩ := gf h; guard_nil h2 h1
      cases x <;> cases y <;> cases op <;> simp [eqGuard] <;> simp [isCst] at hq <;> simp [hnil hq]
    | _ => cases op <;> simp [eqGuard]
  case str => obtain ⟨s, rfl, _⟩ := ha; exact other (by simp) (by simp)
  case ptr => obtain ⟨c, _, rfl⟩ := ha; exact other (by simp) (by simp)
  case slice => obtain ⟨c, a, cp, _, rfl, _⟩ := ha; exact other (by simp) (by simp)
  case map => obtain ⟨c, _, rfl⟩ := ha; exact other (by simp) (by simp)
  case func => obtain ⟨c, d, rfl, _⟩ := ha; exact other (by simp) (by simp)
  case yield => obtain ⟨c, _, rfl⟩ := ha; exact other (by simp) (by simp)
  case iface => obtain ⟨c, rfl, _⟩ := ha; exact other (by simp) (by simp)
  case tuple => obtain ⟨c, rfl, _⟩ := ha; exact other (by simp) (by simp)
  all_goals (subst ha; exact other (by simp) (by simp))

theorem binOp_eq {t : TypeId} {a b : AV} {u z : Value} (ha : VR L a u) (hb : VR L b z) (n0 : a ≠ .top) (n1 : ∀ k n, a ≠ .int k n) (n2 : ∀ n s, a ≠ .str n s) (n3 : ∀ k n, a ≠ .float k n) {r : Bool}
    (hr : (Op.equalIn (9960 + 40) t u z).run P w = .ok r w) : (binOp .eql t u z).run P w = .ok (.bool r) w ∧ (binOp .neq t u z).run P w = .ok (.bool (!r)) w := by
  have hr' : (Op.equal t u z).run P w = .ok r w := hr
  have go : (binOp .eql t u z = do pure (.bool (← Op.equal t u z))) ∧ (binOp .neq t u z = do pure (.bool (!(← Op.equal t u z)))) → (binOp .eql t u z).run P w = .ok (.bool r) w ∧ (binOp .neq t u z).run P w = .ok (.bool (!r)) w := by
    rintro ⟨h1, h2⟩
    rw [h1, h2]
    simp [hr']
  apply go
  cases a <;> simp only [VR] at ha
  case top => exact absurd rfl n0
  case int k n => exact absurd rfl (n1 k n)
  case str n s => exact absurd rfl (n2 n s)
  case float k n => exact absurd rfl (n3 k n)
  case agg l => obtain ⟨cs, rfl, _⟩ := ha; cases z <;> exact ⟨rfl, rfl⟩
  case ptr => obtain ⟨c, _, rfl⟩ := ha; cases z <;> exact ⟨rfl, rfl⟩
  case slice => obtain ⟨c, a, cp, _, rfl, _⟩ := ha; cases z <;> exact ⟨rfl, rfl⟩
  case map => obtain ⟨c, _, rfl⟩ := ha; cases z <;> exact ⟨rfl, rfl⟩
  case func => obtain ⟨c, d, rfl, _⟩ := ha; cases z <;> exact ⟨rfl, rfl⟩
  case yield => obtain ⟨c, _, rfl⟩ := ha; cases z <;> exact ⟨rfl, rfl⟩
  case iface => obtain ⟨c, rfl, _⟩ := ha; cases z <;> exact ⟨rfl, rfl⟩
  case tuple => obtain ⟨c, rfl, _⟩ := ha; cases z <;> exact ⟨rfl, rfl⟩
  all_goals (subst ha; cases z <;> exact ⟨rfl, rfl⟩)

theorem bytesLess_eq : ∀ a b : List UInt8, Op.bytesLess a b = lessN (a.map UInt8.toNat) (b.map UInt8.toNat)
  | _, [] => by simp [Op.bytesLess, lessN]
  | [], _ :: _ => rfl
  | a :: x, b :: y => by
    simp only [Op.bytesLess, List.map_cons, lessN, bytesLess_eq x y]
    congr 1
    rw [Bool.eq_iff_iff]
    simp [← UInt8.toNat_inj]

theorem binOp_str {op : BinOp} {t : TypeId} {a b : ByteArray} : binOp op t (.string a) (.string b) = Op.stringOp op a b := by cases op <;> rfl

theorem binStr_sound {op : BinOp} {a b : ByteArray} {v : AV} (e : binStr op a.size (packN (bytesN a)) b.size (packN (bytesN b)) = some v) : Ans P (Op.stringOp op a b) w L v := by
  have hl : Op.bytesLess a.toList b.toList = sLess a.size (packN (bytesN a)) b.size (packN (bytesN b)) := by
    rw [bytesLess_eq, ← bytesN_length a, ← bytesN_length b, sLess_eq _ _ (bytesN_lt a) (bytesN_lt b), ByteArray.toList_eq, ByteArray.toList_eq]; rfl
  have he : (a.toList == b.toList) = sEq a.size (packN (bytesN a)) b.size (packN (bytesN b)) := by rw [← beq_toListBytes, beq_bytes]
  unfold binStr at e
  split at e
  · split at e
    · rename_i hlt
      have hlt' := blt_iff.1 hlt
      injection e with e; subst e
      rw [mkStr_eq]
      refine ⟨.string (a ++ b), ?_, a ++ b, rfl, by simp, ?_⟩
      · simp [Op.stringOp, IntKind.max, IntKind.signed, IntKind.bits]; omega
      · have : bytesN (a ++ b) = bytesN a ++ bytesN b := by simp [bytesN]
        rw [this, ← sJoin_eq, bytesN_length]
    · cases e
  all_goals first
    | (injection e with e; subst e; refine ⟨_, ?_, rfl⟩; simp [Op.stringOp, hl, he]; done)
    | cases e

include H in
theorem abin_sound (m : MR B w0 L h w) {op : BinOp} {t : TypeId} {a b v : AV} {x y : Operand} (e : abin E op (isCst x || isCst y) t a b h = some v) {u z : Value} (ha : VR L a u) (hb : VR L b z) :
    Ans P (do eqGuard op t x y u z; binOp op t u z) w L v := by
  have any : ∀ {a' : AV}, a' = a → binAny E op (isCst x || isCst y) t a' b h = some v → (∀ k n, a' ≠ .int k n) → (∀ n s, a' ≠ .str n s) → (∀ k n, a' ≠ .float k n) → Ans P (do eqGuard op t x y u z; binOp op t u z) w L v := by
    intro a' ea e2 n1 n2 n3
    subst ea
    unfold binAny at e2
    split at e2
    · cases e2
    · rename_i hg
      have gf : gfree E t = true → P.eqGuardType P.depth t = false ∧ ∃ d, P.underlying t = some d := by
        intro hq
        unfold gfree at hq
        split at hq
        · rename_i ti hti; exact ⟨(H.ty t ti hti).guard hq, (H.ty t ti hti).desc.imp fun _ h => h.1⟩
        · cases hq
      have hguard : (eqGuard op t x y u z).run P w = .ok () w := eqGuard_ok gf hg ha hb
      have hbin : ∀ r : Bool, (Op.equalIn (9960 + 40) t u z).run P w = .ok r w → (binOp .eql t u z).run P w = .ok (.bool r) w ∧ (binOp .neq t u z).run P w = .ok (.bool (!r)) w := by
        intro r hr
        exact binOp_eq ha hb (by intro q; subst q; simp [guardOk] at hg) n1 n2 n3 hr
      split at e2
      · split at e2
        · rename_i r hr
          injection e2 with e2; subst e2
          have := (hbin r (aeq_sound H m 9960 40 t a' b r hr u z ha hb)).1
          exact ⟨.bool r, by simp [hguard, this], rfl⟩
        · cases e2
      · split at e2
        · rename_i r hr
          injection e2 with e2; subst e2
          have := (hbin r (aeq_sound H m 9960 40 t a' b r hr u z ha hb)).2
          exact ⟨.bool (!r), by simp [hguard, this], rfl⟩
        · cases e2
      · cases e2
  unfold abin at e
  split at e
  · rename_i k n
    split at e
    · rename_i k' n'
      simp only [VR] at ha hb; subst ha; subst hb
      obtain ⟨val, h1, h2⟩ := binInt_sound (P := P) (w := w) (L := L) e t
      exact ⟨val, by simp [eqGuard_plain, h1], h2⟩
    · cases e
  · split at e
    · obtain ⟨s1, rfl, q1, q2⟩ := ha
      obtain ⟨s2, rfl, q3, q4⟩ := hb
      subst q1; subst q2; subst q3; subst q4
      obtain ⟨val, h1, h2⟩ := binStr_sound (P := P) (w := w) (L := L) e
      exact ⟨val, by simp [eqGuard_plain, binOp_str, h1], h2⟩
    · cases e
  · cases e
  · rename_i n1 n2 n3
    exact any rfl e (fun k n q => n1 k n q) (fun n s q => n2 n s q) (fun k n q => n3 k n q)
end
end Go.AX

namespace Go.AX
open Go Go.RowKit

section
variable {P : Program} {E : Env} (H : EnvOk P E) {B : Nat} {w0 : World} {L : Lay} {h : Heap} {w : World}

theorem aun_sound {op : UnOp} {a v : AV} (e : aun op a = some v) {x : Value} (ha : VR L a x) : Ans P (Op.unary op x) w L v := by
  unfold aun at e
  split at e
  · rename_i k n
    simp only [VR] at ha; subst ha
    injection e with e; subst e
    rw [mkInt_eq]
    exact ⟨.int k (k.wrap (0 - n)), by simp only [Op.unary, Op.intArith, Sem.run_pure], by simp [VR, awrap_eq]⟩
  · rename_i k n
    simp only [VR] at ha; subst ha
    injection e with e; subst e
    rw [mkInt_eq]
    refine ⟨.int k (back k (wmod k - 1 - toU k n)), ?_, rfl⟩
    have hlt := toU_lt k n
    have hx : Nat.xor (toU k (if k.signed then -1 else k.max)) (toU k n) = wmod k - 1 - toU k n := by
      have h1 : toU k (if k.signed then -1 else k.max) = wmod k - 1 := by cases k <;> decide
      rw [h1]
      have hp : wmod k = 2 ^ k.bits := wmod_eq k
      have : (BitVec.allOnes k.bits ^^^ BitVec.ofNat k.bits (toU k n)) = ~~~ (BitVec.ofNat k.bits (toU k n)) := by
        rw [BitVec.allOnes_xor]
      have h2 := congrArg BitVec.toNat this
      rw [BitVec.toNat_xor, BitVec.toNat_not, BitVec.toNat_allOnes, BitVec.toNat_ofNat, ← hp, Nat.mod_eq_of_lt hlt] at h2
      exact h2
    have := bits_run (P := P) (w := w) .xor k (if k.signed then -1 else k.max) n _ rfl
    rw [hx] at this
    simpa [Op.unary] using this
  · simp only [VR] at ha; subst ha
    injection e with e; subst e
    exact ⟨_, by simp [Op.unary], rfl⟩
  · cases e

/-! #### Parts laid over a row -/
theorem vlay_cons (v : Value) (vs : List Value) (o : Nat) (l : List Value) (h : o + (vs.length + 1) ≤ l.length) : vlay vs (o + 1) (l.set o v) = vlay (v :: vs) o l := by
  apply List.ext_getElem?
  intro i
  simp only [vlay, List.length_cons]
  rcases Nat.lt_trichotomy i o with hi | hi | hi
  · rw [List.getElem?_append_left (by simp; omega), List.getElem?_append_left (by simp; omega), List.getElem?_append_left (by simp; omega), List.getElem?_append_left (by simp; omega)]
    rw [List.getElem?_take, List.getElem?_take, if_pos (by omega), if_pos hi, List.getElem?_set_ne (by omega)]
  · subst hi
    rw [List.getElem?_append_left (by simp; omega), List.getElem?_append_left (by simp; omega), List.getElem?_append_left (by simp; omega), List.getElem?_append_right (by simp; omega)]
    rw [List.getElem?_take, if_pos (by omega)]
    simp [Nat.min_eq_left (show i ≤ l.length by omega), show i < l.length by omega]
  · by_cases hi2 : i < o + 1 + vs.length
    · rw [List.getElem?_append_left (by simp; omega), List.getElem?_append_right (by simp; omega), List.getElem?_append_left (by simp; omega), List.getElem?_append_right (by simp; omega)]
      simp only [List.length_take, List.length_set]
      rw [Nat.min_eq_left (by omega), Nat.min_eq_left (by omega)]
      obtain ⟨j, rfl⟩ : ∃ j, i = o + 1 + j := ⟨i - (o + 1), by omega⟩
      rw [show o + 1 + j - (o + 1) = j by omega, show o + 1 + j - o = j + 1 by omega]
      simp
    · rw [List.getElem?_append_right (by simp; omega), List.getElem?_append_right (by simp; omega)]
      rw [List.getElem?_drop, List.getElem?_drop, List.getElem?_set_ne (by simp; omega)]
      congr 1
      simp
      omega

theorem fold_set (off : Nat) : ∀ (vs : List Value) (j : Nat) (arr : Array Value), off + j + vs.length ≤ arr.size →
    ((vs.zipIdx j).foldl (fun (cs : Array Value) (p : Value × Nat) => cs.setIfInBounds (off + p.2) p.1) arr).toList = vlay vs (off + j) arr.toList := by
  intro vs
  induction vs with
  | nil => intro j arr _; simp [vlay]
  | cons v vs ih =>
    intro j arr hl
    simp only [List.length_cons] at hl
    rw [List.zipIdx_cons, List.foldl_cons, ih (j + 1) _ (by simp; omega)]
    simp only [Array.toList_setIfInBounds]
    rw [← vlay_cons v vs (off + j) arr.toList (by simp; omega)]
    rfl

/-- parts and their values -/
def PR (L : Lay) : List (Nat × AV) → List (Nat × Value) → Prop
  | [], l => l = []
  | p :: ps, l => ∃ v vs, l = (p.1, v) :: vs ∧ VR L p.2 v ∧ PR L ps vs

theorem fill_sound {place place' : Nat → Option (Nat × Nat)} (hpp : ∀ i x, place i = some x → place' i = some x) : ∀ {ps : List (Nat × AV)} {us : List (Nat × Value)} {cells out : List AV} {xs : Array Value}, PR L ps us → VRL L cells xs.toList →
    afill place cells ps = some out → ∃ ys, Instr.fill place' xs us = some ys ∧ VRL L out ys.toList
  | [], _, cells, out, xs, hp, hx, e => by
    cases hp
    simp [afill] at e
    subst e
    exact ⟨xs, rfl, hx⟩
  | (i, a) :: ps, _, cells, out, xs, ⟨v, vs, e1, hv, hp⟩, hx, e => by
    subst e1
    simp only [afill] at e
    split at e
    · cases e
    · rename_i off size hpl
      have go : a ≠ .top → (match Nat.beq a.cells.length size with
        | false => none
        | true => match llay a.cells off cells with
          | some c => afill place c ps
          | none => none) = some out → ∃ ys, Instr.fill place' xs ((i, v) :: vs) = some ys ∧ VRL L out ys.toList := by
        intro hne e
        split at e
        · cases e
        · rename_i hsz
          split at e
          · rename_i c hlay
            have hcl := hv.cells hne
            have hlen := hcl.length
            obtain ⟨k1, k2, k3⟩ := hcl.lay hx hlay
            have hxl := hx.length
            have hsz' := beq_iff.1 hsz
            have e3 : ¬ (v.cells.size ≠ size ∨ off + v.cells.size > xs.size) := by simp at hlen k1; omega
            have hf := fold_set off v.cells.toList 0 xs (by have := k1; rw [hlen] at this; simpa using this)
            have hfold : (v.cells.zipIdx.foldl (fun cs (c, j) => cs.setIfInBounds (off + j) c) xs).toList = vlay v.cells.toList off xs.toList := by
              rw [← Array.foldl_toList, Array.toList_zipIdx]
              exact hf
            obtain ⟨ys, h1, h2⟩ := fill_sound hpp (xs := v.cells.zipIdx.foldl (fun cs (c, j) => cs.setIfInBounds (off + j) c) xs) hp (by rw [hfold]; exact k2) e
            refine ⟨ys, ?_, h2⟩
            simp only [Instr.fill, hpp _ _ hpl]
            rw [if_neg (by simpa using e3)]
            exact h1
          · cases e
      cases a <;> first
        | (simp only [reduceCtorEq] at e; done)
        | exact go (by simp) e

theorem oParts_sound {r : Operand → AV} {ρ : Operand → Value} : ∀ (ps : List (Nat × Operand)), (∀ p ∈ ps, VR L (r p.2) (ρ p.2)) → PR L (ps.map fun p => (p.1, r p.2)) (ps.map fun p => (p.1, ρ p.2))
  | [], _ => rfl
  | p :: ps, h => ⟨ρ p.2, _, rfl, h p (by simp), oParts_sound ps fun q hq => h q (by simp [hq])⟩

theorem mapM_places : ∀ (fields : List Field), (∀ f ∈ fields, (P.info? f.type).isSome = true) →
    (fields.mapM fun f => do pure (f.offset, ← sizeOf f.type) : Sem (List (Nat × Nat))).run P w = .ok (fields.map fun f => (f.offset, P.cellsOf f.type)) w
  | [], _ => rfl
  | f :: fs, h => by
    obtain ⟨i, hi⟩ := Option.isSome_iff_exists.1 (h f (by simp))
    have ih := mapM_places fs fun g hg => h g (by simp [hg])
    rw [List.mapM_cons]
    simp [sizeOf, typeInfo, hi, Program.cellsOf] at ih ⊢
    simp [ih]

include H in
theorem abuild_sound {t : TypeId} {ps : List (Nat × AV)} {v : AV} (e : abuild E t ps = some v) {us : Array (Nat × Value)} (hp : PR L ps us.toList) : Ans P (Instr.build t us) w L v := by
  unfold abuild at e
  split at e
  · rename_i ti hti
    obtain ⟨z, hz, hzr, hznt, hzs⟩ := H.zero hti
    obtain ⟨d, hd, hk⟩ := H.under hti
    have hzc := (hzr L).cells hznt
    split at e
    · rename_i fs hfs
      rw [hfs] at hk
      obtain ⟨fields, rfl, rfl⟩ := hk
      simp only [Option.map_eq_some_iff] at e
      obtain ⟨out, e, rfl⟩ := e
      obtain ⟨d2, g1, _, _, g2⟩ := (H.ty t ti hti).desc
      have hd2 : d2 = .struct fields := by
        have := run_underlying g1 w
        rw [hd w] at this
        injection this with this
        exact this.symm
      have hm : (fields.mapM fun f => do pure (f.offset, ← sizeOf f.type) : Sem (Array (Nat × Nat))).run P w = .ok (fields.map fun f => (f.offset, P.cellsOf f.type)) w := by
        rw [Array.mapM_eq_mapM_toList]
        have := mapM_places (P := P) (w := w) fields.toList (fun f hf => g2 fields hd2 f (by simpa using hf))
        simp only [Sem.run_map, this, Result.andThen_ok]
        congr 1
        apply Array.ext'
        simp
      obtain ⟨ys, h1, h2⟩ := fill_sound (place' := ((fields.map fun f => (f.offset, P.cellsOf f.type))[·]?)) (fun i x hx => by
        split at hx
        · rename_i p hp
          split at hx
          · rename_i fi hfi
            injection hx with hx; subst hx
            obtain ⟨fl, k1, k2, k3⟩ := nthF_some hp
            have k1' : fields[i]? = some fl := by simpa using k1
            obtain ⟨inf, j1, _, j2, _⟩ := H.info hfi
            rw [← k2] at j1
            simp [k1', k3, Program.cellsOf, j1, j2]
          · cases hx
        · cases hx) hp hzc e
      refine ⟨.agg ys, ?_, ys, rfl, h2⟩
      simp only [Instr.build, Sem.run_bind, hz w, hd w, Result.andThen_ok, hm]
      rw [h1]
      rfl
    · rename_i n el hfs
      rw [hfs] at hk
      simp only [TKR] at hk; subst hk
      split at e
      · rename_i ei hei
        simp only [Option.map_eq_some_iff] at e
        obtain ⟨out, e, rfl⟩ := e
        obtain ⟨ys, h1, h2⟩ := fill_sound (fun _ _ h => h) hp hzc e
        exact ⟨.agg ys, by simp [Instr.build, hz w, hd w, H.size hei, h1], ys, rfl, h2⟩
      · cases e
    · cases e
  · cases e
end
end Go.AX

namespace Go.AX
open Go Go.RowKit

/-- what an operation that makes one block comes to -/
def Mks (P : Program) (s : Sem Value) (w : World) (L : Lay) (o : AObj) (k : Nat → AV) : Prop :=
  ∃ (n : Nat) (obj : Obj) (sz : Nat) (val : Value), s.run P w = .ok val { w.alloc obj with drawn := n } ∧
    ∀ (M : Lay) (b : Nat), L.le M → M b = some ⟨w.heap.size, 0, sz⟩ → OR M ⟨w.heap.size, 0, sz⟩ o obj ∧ VR M (k b) val

theorem qOpt_make {r : Option AV} {why : String} {o : AObj} {k : Nat → AV} (h : qOpt r why = .make o k) : False := by
  unfold qOpt at h; split at h <;> cases h

/-- a whole new row of cells -/
theorem OR.row {M : Lay} {l : List AV} {arr : Array Value} {el : TypeId} {blk : Nat} (h : VRL M l arr.toList) : OR M ⟨blk, 0, arr.size⟩ (.cells l true el 0 false) (.cells arr el) :=
  ⟨arr, (0, 0), rfl, by simp, ⟨arr.toList, [], by simp, h, fun _ => rfl⟩, fun _ => rfl, fun e => absurd e (by decide), fun _ => rfl⟩

theorem rep_list (zs : List Value) : ∀ c : Nat, (List.range (c * zs.length)).map (fun i => zs.toArray[i % zs.length]!) = (List.replicate c zs).flatten := by
  intro c
  induction c with
  | zero => simp
  | succ c ih =>
    rw [List.replicate_succ, List.flatten_cons, ← ih, Nat.succ_mul, Nat.add_comm, List.range_add, List.map_append, List.map_map]
    congr 1
    · apply List.ext_getElem
      · simp
      · intro i h1 h2
        simp only [List.length_map, List.length_range] at h1
        simp [Nat.mod_eq_of_lt h1, h1]
    · apply List.map_congr_left
      intro i _
      simp

theorem arep_sound {L : Lay} {z : List AV} {zs : List Value} (h : VRL L z zs) : ∀ c : Nat, VRL L (arep z c) (List.replicate c zs).flatten
  | 0 => rfl
  | c + 1 => by
    rw [List.replicate_succ, List.flatten_cons]
    exact h.append (arep_sound h c)
theorem arep_length (z : List AV) : ∀ c : Nat, (arep z c).length = c * z.length
  | 0 => by simp [arep]
  | c + 1 => by simp [arep, arep_length z c, Nat.succ_mul, Nat.add_comm]

theorem range_rep (zc : Array Value) (c : Nat) : ((Array.range (c * zc.size)).map fun i => zc[i % zc.size]!).toList = (List.replicate c zc.toList).flatten := by
  rw [← rep_list]
  simp

section
variable {P : Program} {E : Env} (H : EnvOk P E) {B : Nat} {w0 : World} {L : Lay} {h : Heap} {w : World}

include H in
theorem oAlloc_make {t : TypeId} {o : AObj} {k : Nat → AV} (e : oAlloc E t = .make o k) : Mks P (Instr.alloc t true (.tuple #[])) w L o k := by
  unfold oAlloc at e
  split at e
  · rename_i ti hti
    injection e with e1 e2; subst e1; subst e2
    obtain ⟨z, hz, hzr, hznt, hzs⟩ := H.zero hti
    refine ⟨w.drawn, .cells z.cells t, z.cells.size, .pointer (some ⟨w.heap.size, 0, none⟩), ?_, fun M b hle hb => ⟨OR.row ((hzr M).cells hznt), ⟨_, hb, rfl⟩⟩⟩
    simp [Instr.alloc, hz w, newVar, newRow]
    rfl
  · cases e

theorem oBox_make {t : TypeId} {a : AV} {o : AObj} {k : Nat → AV} (e : oBox t a = .make o k) {x : Value} (ha : VR L a x) : Mks P (Instr.box t x) w L o k := by
  have go : a ≠ .top → Q.make (.cells a.cells true t 0 false) (fun b => AV.ptr b 0) = .make o k → Mks P (Instr.box t x) w L o k := by
    intro hne e
    injection e with e1 e2; subst e1; subst e2
    refine ⟨w.drawn, .cells x.cells t, x.cells.size, .pointer (some ⟨w.heap.size, 0, none⟩), ?_, fun M b hle hb => ⟨OR.row ((ha.cells hne).mono hle), ⟨_, hb, rfl⟩⟩⟩
    simp [Instr.box, newVar, newRow]
    rfl
  unfold oBox at e
  split at e
  · cases e
  · cases e
  · rename_i n1 n2; exact go (fun q => n1 q) e

include H in
theorem oBuildSlice_make {t : TypeId} {len : Nat} {ps : List (Nat × AV)} {o : AObj} {k : Nat → AV} (e : oBuildSlice E t len ps = .make o k) {us : Array (Nat × Value)} (hp : PR L ps us.toList) :
    Mks P (Instr.buildSlice t len us) w L o k := by
  unfold oBuildSlice at e
  split at e
  · rename_i el htk
    obtain ⟨d, hd, hk⟩ := H.tk htk
    simp only [TKR] at hk; subst hk
    split at e
    · rename_i ei hei
      obtain ⟨z, hz, hzr, hznt, hzs⟩ := H.zero hei
      split at e
      · rename_i hle
        have hle' := ble_iff.1 hle
        split at e
        · rename_i cs hcs
          injection e with e1 e2; subst e1; subst e2
          have hzc := (hzr L).cells hznt
          have hrow : VRL L (arep ei.zero.cells len) ((Array.range (len * ei.size)).map fun i => z.cells[i % z.cells.size]!).toList := by
            rw [← hzs, range_rep]; exact arep_sound hzc len
          obtain ⟨ys, h1, h2⟩ := fill_sound (fun _ _ h => h) hp hrow hcs
          refine ⟨w.drawn, .cells ys el, ys.size, .slice (some ⟨w.heap.size, 0, none⟩) len len, ?_, fun M b hle2 hb => ⟨OR.row (h2.mono hle2), ⟨_, _, len, hb, rfl, .inr rfl, Nat.le_refl _, Nat.le_refl _, fun _ => rfl, fun q => by cases q⟩⟩⟩
          have hno : ¬ (len * ei.size > 2 ^ 24) := by omega
          by_cases h0 : len * ei.size = 0
          · have h1' : Instr.fill (fun i => some (i * ei.size, ei.size)) ((Array.range (len * ei.size)).map fun i => (#[] : Array Value)[i % (#[] : Array Value).size]!) us.toList = some ys := by
              rw [← h1]; congr 1; rw [h0]; simp
            simp [Instr.buildSlice, hd w, H.size hei, h0, newRow] at h1' ⊢
            simp [h1']
            rfl
          · simp [Instr.buildSlice, hd w, H.size hei, hno, h0, hz w, h1, newRow]
            rfl
        · cases e
      · cases e
    · cases e
  · cases e

theorem wrap_small {n : Nat} (h : n < 9223372036854775808) : IntKind.i64.wrap (n : Int) = n := by
  rw [← awrap_eq]
  show (match Nat.blt n (wtop .i64) with | true => Int.ofNat n | false => back .i64 (n % wmod .i64)) = _
  rw [blt_iff.2 (show n < wtop .i64 from h)]
  rfl

include H in
theorem oMakeSlice_make {t : TypeId} {l c : AV} {o : AObj} {k : Nat → AV} (e : oMakeSlice E t l c = .make o k) {x y : Value} (hl : VR L l x) (hc : VR L c y) : Mks P (Instr.makeSlice t x y) w L o k := by
  unfold oMakeSlice at e
  split at e
  · rename_i el htk
    obtain ⟨d, hd, hk⟩ := H.tk htk
    simp only [TKR] at hk; subst hk
    split at e
    · rename_i ei hei
      obtain ⟨z, hz, hzr, hznt, hzs⟩ := H.zero hei
      obtain ⟨inf, _, hi1, hi2, hi3, _⟩ := H.info hei
      split at e
      · rename_i k1 n1
        split at e
        · rename_i k2 n2
          split at e
          · rename_i hok
            rw [Bool.and_eq_true] at hok
            have hle := ble_iff.1 hok.1
            have hlt := blt_iff.1 hok.2
            injection e with e1 e2; subst e1; subst e2
            simp only [VR] at hl hc; subst hl; subst hc
            have hzc := (hzr L).cells hznt
            have hrow : VRL L (arep ei.zero.cells n2) ((Array.range (n2 * ei.size)).map fun i => z.cells[i % z.cells.size]!).toList := by
              rw [← hzs, range_rep]; exact arep_sound hzc n2
            have hb1 : n2 * ei.bytes < 100000 := Nat.lt_of_le_of_lt (Nat.mul_le_mul_left _ (by omega)) hlt
            have hn2 : n2 < 100000 := Nat.lt_of_le_of_lt (by have := Nat.mul_le_mul_left n2 (show 1 ≤ ei.bytes + ei.size + 1 by omega); omega) hlt
            have w1 : IntKind.i64.wrap (n1 : Int) = n1 := wrap_small (by omega)
            have w2 : IntKind.i64.wrap (n2 : Int) = n2 := wrap_small (by omega)
            have tl : ∀ n : Nat, n ≤ n2 → ((n : Int) < 0 || decide ((inf.bytes : Int) * n > 2 ^ 48)) = false := by
              intro n hn
              have : ei.bytes * n ≤ n2 * ei.bytes := by rw [Nat.mul_comm]; exact Nat.mul_le_mul_right _ hn
              rw [hi3]
              have h2 : ((ei.bytes : Int) * n) = ((ei.bytes * n : Nat) : Int) := by simp
              rw [h2]
              simp
              omega
            refine ⟨w.drawn, .cells ((Array.range (n2 * ei.size)).map fun i => z.cells[i % z.cells.size]!) el, _, .slice (some ⟨w.heap.size, 0, none⟩) n1 n2, ?_, fun M b hle2 hb => ⟨OR.row (hrow.mono hle2), ⟨_, _, n2, hb, rfl, .inr rfl, hle, Nat.le_refl _, fun _ => rfl, fun q => by cases q⟩⟩⟩
            have hcond : ¬ (((n2 : Int) < 0 || decide ((inf.bytes : Int) * n2 > 2 ^ 48)) = true ∨ (n1 : Int) < 0 ∨ (n1 : Int) > n2) := by
              rw [tl n2 (Nat.le_refl _)]
              simp
              omega
            simp only [Instr.makeSlice, Sem.run_bind, hd w, Result.andThen_ok, asInt, asIntOf, Sem.run_pure, hi1 w, w1, w2, Int.ofNat_eq_natCast, Bool.or_eq_true, decide_eq_true_eq] at hcond ⊢
            rw [← or_assoc] at hcond
            rw [if_neg hcond]
            by_cases h0 : n2 * ei.size = 0
            · have e0 : ((Array.range (n2 * ei.size)).map fun i => z.cells[i % z.cells.size]!) = (#[] : Array Value) := by rw [h0]; apply Array.ext' ; simp
              have e1 : ((Array.range 0).map fun _ => (default : Value)) = (#[] : Array Value) := by apply Array.ext'; simp
              rw [e0]
              simp [H.size hei, h0, newRow, e1]
              rfl
            · simp [H.size hei, h0, newRow, hz w]
              rfl
          · cases e
        · cases e
      · cases e
    · cases e
  · cases e

theorem arange_make (m : MR B w0 L h w) {t : TypeId} {a : AV} {o : AObj} {k : Nat → AV} (e : arange E t a h = .make o k) {x : Value} (ha : VR L a x) (H : EnvOk P E) : Mks P (Instr.range t x) w L o k := by
  unfold arange at e
  split at e
  · split at e
    · rename_i htk
      obtain ⟨d, hd, hk⟩ := H.tk htk
      simp only [TKR] at hk; subst hk
      split at e
      · rename_i b es clock hb
        injection e with e1 e2; subst e1; subst e2
        obtain ⟨c, hc, rfl⟩ := ha
        obtain ⟨o', ho, arr, rfl, her⟩ := m.obj _ _ c hb hc
        refine ⟨w.drawn, .mapIter (some c.blk) clock #[] clock, 0, .pointer (some ⟨w.heap.size, 0, none⟩), ?_, fun M b hle hb => ⟨⟨rfl, c, hle _ _ hc, rfl⟩, _, hb, rfl⟩⟩
        simp [Instr.range, hd w, getObj, Sem.run, ho]
        rfl
      · cases e
    · cases e
  · cases e

theorem oMakeMap_make {t : TypeId} : Mks P (Instr.makeMap t none) w L (.map [] 0) fun b => .map b :=
  ⟨w.drawn, .map #[] 0, 0, .map (some w.heap.size), by simp [Instr.makeMap]; rfl, fun M b hle hb => ⟨⟨#[], rfl, rfl⟩, _, hb, rfl⟩⟩

theorem byteCells_sound {L : Lay} (s : ByteArray) : VRL L (byteCells s.size (packN (bytesN s))) (s.data.map fun b => Value.int .u8 b.toNat).toList := by
  unfold byteCells
  have : sBytes (packN (bytesN s)) s.size [] = bytesN s := by
    have := sBytes_eq (bytesN s) (bytesN_lt s) []
    rw [bytesN_length] at this
    simpa using this
  rw [this]
  simp only [bytesN, Array.toList_map, List.map_map]
  generalize s.data.toList = l
  induction l with
  | nil => rfl
  | cons b l ih => exact ⟨_, _, rfl, rfl, ih⟩


theorem push_modify {α : Type} (a : Array α) (x : α) (f : α → α) : (a.push x).modify a.size f = a.push (f x) := by
  apply Array.ext_getElem?
  intro i
  rw [Array.getElem?_modify, Array.getElem?_push, Array.getElem?_push]
  by_cases hi : i = a.size
  · subst hi; simp
  · simp [hi, Ne.symm hi]

/-- a string's bytes, as a new slice -/
theorem toBytes_make (H : EnvOk P E) {t src el : TypeId} (htk : tk E t = some (.slice el)) (hel : tk E el = some (.int .u8)) {s : ByteArray} (hs : s.size < 1099511627776) (d0 : TypeDesc) (hsrc : (underlying src).run P w = .ok d0 w) :
    Mks P (convert src t (.string s)) w L (.cells (byteCells s.size (packN (bytesN s))) false el 1 false) fun b => .slice b 0 s.size s.size 1 false := by
  obtain ⟨d, hd, hk⟩ := H.tk htk
  simp only [TKR] at hk; subst hk
  obtain ⟨d2, hd2, hk2⟩ := H.tk hel
  simp only [TKR] at hk2; subst hk2
  have hsz : (s.data.map fun b => Value.int .u8 b.toNat).size = s.size := by rw [Array.size_map]; rfl
  have hconv : (convert src t (.string s)).run P w = (Conv.stringToBytes el s).run P w := by
    cases d0 <;> simp [convert, hsrc, hd w, hd2 w]
  let cap : Nat := (Question.appendCap s.size 0 el).cut (w.tape w.drawn (.appendCap s.size 0 el))
  have hcap : s.size ≤ cap := by show s.size ≤ s.size + _; omega
  let arr : Array Value := (s.data.map fun b => Value.int .u8 b.toNat) ++ Array.replicate (cap - s.size) (.int .u8 0)
  have harr : arr.size = cap := by simp only [arr, Array.size_append, hsz, Array.size_replicate]; omega
  refine ⟨w.drawn + 1, .cells arr el (cap, cap + 1), cap, .slice (some ⟨w.heap.size, 0, none⟩) s.size cap, ?_, fun M b hle hb => ⟨⟨arr, _, rfl, by simp [harr], ⟨_, (Array.replicate (cap - s.size) (.int .u8 0)).toList, ?_, byteCells_sound s, fun q => by cases q⟩, ⟨fun q => absurd q (by decide), fun _ i hi => ?_, fun q => by cases q⟩⟩, ⟨_, _, cap, hb, rfl, .inr rfl, hcap, hcap, fun q => by (exfalso; revert q; decide), fun _ => by simp⟩⟩⟩
  · rw [hconv]
    have hforced : (Question.appendCap s.size 0 el).forced = false := rfl
    have e1 : ((w.drew.alloc (.cells arr el)).freeze ⟨w.heap.size, cap, none⟩ 1) = { w.alloc (.cells arr el (cap, cap + 1)) with drawn := w.drawn + 1 } := by
      simp only [World.freeze, World.alloc, World.drew, if_neg (show ¬ (1 = 0) by decide), push_modify]
      rfl
    have e2 : (w.drew.alloc (.cells arr el)).shape? w.heap.size = some (el, cap) := by
      have : (w.drew.alloc (.cells arr el)).heap[w.heap.size]? = some (.cells arr el) := heap_push_at w.drew _
      simp only [World.shape?, this, harr]
    simp [Conv.stringToBytes, hforced, newRow, markStringish]
    change (Result.andThen (Sem.run P (match (w.drew.alloc (.cells arr el)).shape? w.heap.size with | some (fst, n) => freeze { block := w.heap.size, off := n } 1 | x => pure ()) (w.drew.alloc (.cells arr el))) fun a w' => Result.ok (Value.slice (some { block := w.heap.size, off := 0 }) s.size cap) w') = _
    rw [e2]
    simp only [freeze, Sem.run, Result.andThen_ok]
    rw [e1]
    rfl
  · simp [arr]
  · rw [harr] at hi
    simp; omega
end
end Go.AX

namespace Go.AX
open Go Go.RowKit

section
variable {P : Program} {E : Env} (H : EnvOk P E) {B : Nat} {w0 : World} {L : Lay} {h : Heap} {w : World}

/-! #### Slice expressions -/
def OVR (L : Lay) : Option AV → Option Value → Prop
  | none, none => True
  | some a, some v => VR L a v
  | _, _ => False

def optInt (n : Option Nat) (u : Option Value) : Prop := (n = none ∧ u = none) ∨ ∃ k m, n = some m ∧ u = some (.int k (Int.ofNat m))
theorem abound_sound {o : Option AV} {u : Option Value} {n : Option Nat} (e : abound o = some n) (h : OVR L o u) : optInt n u := by
  unfold abound at e
  split at e
  · injection e with e; subst e
    cases u with
    | none => exact .inl ⟨rfl, rfl⟩
    | some _ => cases h
  · injection e with e; subst e
    cases u with
    | none => cases h
    | some v => simp only [OVR, VR] at h; subst h; exact .inr ⟨_, _, rfl, rfl⟩
  · cases e

theorem run_sliceBound {k : IntKind} {m y : Nat} {code : BoundsCode} (h : m ≤ y) : (Instr.sliceBound (.int k (Int.ofNat m)) y code).run P w = .ok m w := by
  have h1 : (0 : Int) ≤ (m : Int) ∧ (m : Int) ≤ (y : Int) := by omega
  simp only [Instr.sliceBound, asIntOf, Sem.run_bind, Sem.run_pure, Result.andThen_ok, Int.ofNat_eq_natCast]
  rw [if_pos h1]
  simp

theorem run_sliceBounds {isSlice : Bool} {len cap : Nat} {lo hi mx : Option Nat} {ul uh um : Option Value} (hlo : optInt lo ul) (hhi : optInt hi uh) (hmx : optInt mx um)
    (h0 : (mx.isSome && hi.isNone) = false) (h1 : mx.getD cap ≤ cap) (h2 : hi.getD len ≤ mx.getD cap) (h3 : lo.getD 0 ≤ hi.getD len) :
    (Instr.sliceBounds isSlice len cap ul uh um).run P w = .ok (lo.getD 0, hi.getD len, mx.getD cap) w := by
  have go : ∀ (m hh : Nat), lo.getD 0 ≤ hh → ∀ b, ((match ul with | some v => do let l ← Instr.sliceBound v hh b; pure (l, hh, m) | none => do let l ← pure 0; pure (l, hh, m) : Sem (Nat × Nat × Nat)).run P w) = .ok (lo.getD 0, hh, m) w := by
    intro m hh q3 b
    rcases hlo with ⟨rfl, rfl⟩ | ⟨k1, l, rfl, rfl⟩
    · rfl
    · simp only [Option.getD_some] at q3 ⊢
      simp only [Sem.run_bind, run_sliceBound q3, Result.andThen_ok, Sem.run_pure]
  rcases hmx with ⟨rfl, rfl⟩ | ⟨k3, m, rfl, rfl⟩
  · rcases hhi with ⟨rfl, rfl⟩ | ⟨k2, hh, rfl, rfl⟩
    · simp only [Option.getD_some, Option.getD_none] at h1 h2 h3 ⊢
      simp only [Instr.sliceBounds, Sem.run_bind, Sem.run_pure, Result.andThen_ok]
      exact go cap len h3 _
    · simp only [Option.getD_some, Option.getD_none] at h1 h2 h3 ⊢
      simp only [Instr.sliceBounds, Sem.run_bind, Sem.run_pure, Result.andThen_ok, run_sliceBound h2]
      exact go cap hh h3 _
  · rcases hhi with ⟨rfl, rfl⟩ | ⟨k2, hh, rfl, rfl⟩
    · cases h0
    · simp only [Option.getD_some, Option.getD_none] at h1 h2 h3 ⊢
      simp only [Instr.sliceBounds, Sem.run_bind, Sem.run_pure, Result.andThen_ok, run_sliceBound h1, run_sliceBound h2]
      exact go m hh h3 _

theorem extract_bytes (s : ByteArray) {lo hi : Nat} (h1 : lo ≤ hi) (h2 : hi ≤ s.size) : (s.extract lo hi).size = hi - lo ∧ packN (bytesN (s.extract lo hi)) = sCut s.size (packN (bytesN s)) lo hi := by
  constructor
  · rw [ByteArray.size_extract]; omega
  · have h3 := sCut_eq (bytesN s) lo hi (bytesN_lt s) h1 (by rw [bytesN_length]; exact h2)
    rw [bytesN_length] at h3
    rw [h3]
    congr 1
    simp only [bytesN, ByteArray.data_extract]
    simp [List.map_drop, List.map_take, List.drop_take]

theorem sliceOf_sound {blk off : Nat} {len cap sz : Nat} {ex : Bool} {v : AV} {c : Loc} {b : Nat} (hc : L b = some c) {a : Addr} {cp : Nat} (ha : cp = 0 ∨ a = ⟨c.blk, c.off + off, none⟩) (hlen : len ≤ cp) (hcap : cap ≤ cp)
    (hex : ex = true → cp = cap) (hne : ex = false → off + cp * sz ≤ c.size) {l : Nat} {hi mx : Option Nat} (e : sliceOf b off len cap sz ex l hi mx = some v) :
    mx.getD cp ≤ cp ∧ hi.getD len ≤ mx.getD cp ∧ l ≤ hi.getD len ∧
    VR L v (.slice (if mx.getD cp = l then some a else some (a.add (l * sz))) (hi.getD len - l) (mx.getD cp - l)) := by
  unfold sliceOf at e
  simp only at e
  split at e
  · rename_i hb
    simp only [Bool.and_eq_true, ble_iff] at hb
    obtain ⟨⟨q1, q2⟩, q3⟩ := hb
    have g1 : mx.getD cp ≤ cp := by cases mx <;> simp at q2 q3 ⊢; omega
    have g2 : mx.getD cap ≤ mx.getD cp := by cases mx <;> simp; exact hcap
    have hadr : ∀ m : Nat, m ≤ cp → l ≤ m → (m - l = 0 ∨ (if m = l then some a else some (a.add (l * sz))) = some (⟨c.blk, c.off + (off + l * sz), none⟩ : Addr)) := by
      intro m hm hl
      by_cases hml : m = l
      · left; omega
      · right
        rw [if_neg hml]
        rcases ha with h | h
        · omega
        · subst h; rw [Addr.add_mid, Nat.add_assoc]
    refine ⟨g1, by omega, q1, ?_⟩
    split at e
    · rename_i hexm
      injection e with e; subst e
      have hm : mx.getD cp = mx.getD cap := by
        cases mx with
        | none => simp at hexm ⊢; exact hex hexm
        | some m => rfl
      rw [hm]
      unfold sliceEx
      split
      · rename_i hml
        have hml' := beq_iff.1 hml
        have : hi.getD len - l = 0 := by omega
        rw [if_pos hml', this, hml', Nat.sub_self]
        exact ⟨c, _, 0, hc, rfl, .inl rfl, Nat.le_refl _, Nat.le_refl _, fun _ => rfl, fun q => by cases q⟩
      · rename_i hml
        have hml' := beq_not.1 hml
        simp only [force_eq]
        rw [if_neg hml']
        refine ⟨c, _, _, hc, rfl, ?_, by omega, Nat.le_refl _, fun _ => rfl, fun q => by cases q⟩
        have := hadr (mx.getD cap) (by omega) (by omega)
        rw [if_neg hml'] at this
        rcases this with h | h
        · exact .inl h
        · injection h with h; exact .inr h
    · rename_i hexm
      simp only [force_eq] at e
      injection e with e; subst e
      simp only [Bool.or_eq_false_iff] at hexm
      obtain ⟨hex0, hmx0⟩ := hexm
      cases mx with
      | some m => simp at hmx0
      | none =>
        simp only [Option.getD_none] at *
        have hh := hne hex0
        have hmul : l * sz + (cp - l) * sz = cp * sz := by rw [← Nat.add_mul]; congr 1; omega
        have hval : (if cp = l then some a else some (a.add (l * sz))) = some (if cp = l then a else a.add (l * sz)) := by split <;> rfl
        rw [hval]
        refine ⟨c, _, _, hc, rfl, ?_, by omega, by omega, fun q => (by cases q), fun _ => by omega⟩
        have := hadr cp (Nat.le_refl _) (by omega)
        rw [hval] at this
        rcases this with h | h
        · exact .inl h
        · injection h with h; exact .inr h
  · cases e

include H in
theorem elemSz_some {t : TypeId} {z : Nat} (e : elemSz E t = some z) : ∃ el ei, (∀ w, (underlying t).run P w = .ok (.slice el) w) ∧ E.ty el = some ei ∧ ei.size = z := by
  unfold elemSz at e
  split at e
  · rename_i el htk
    obtain ⟨d, hd, hk⟩ := H.tk htk
    simp only [TKR] at hk; subst hk
    split at e
    · rename_i ei hei
      injection e with e
      exact ⟨el, ei, hd, hei, e⟩
    · cases e
  · cases e

include H in
theorem aslice_sound {t : TypeId} {a v : AV} {lo hi mx : Option AV} (e : aslice E t a lo hi mx = some v) {x : Value} {ul uh um : Option Value} (ha : VR L a x) (hl : OVR L lo ul) (hh : OVR L hi uh) (hm : OVR L mx um) :
    Ans P (Instr.sliceAt t x ul uh um) w L v := by
  unfold aslice at e
  split at e
  · rename_i lo' hi' mx' el eh em
    have gl := abound_sound el hl
    have gh := abound_sound eh hh
    have gm := abound_sound em hm
    split at e
    · cases e
    · rename_i hmh
      split at e
      · -- a string
        rename_i n s
        split at e
        · rename_i htk
          obtain ⟨d, hd, hk⟩ := H.tk htk
          simp only [TKR] at hk; subst hk
          unfold sliceStr at e
          split at e
          · cases e
          · split at e
            · rename_i hb
              simp only [Bool.and_eq_true, ble_iff] at hb
              obtain ⟨q1, q2⟩ := hb
              injection e with e; subst e
              obtain ⟨sx, rfl, hs1, hs2⟩ := ha
              subst hs1; subst hs2
              have gm' : um = none := by
                rcases gm with ⟨_, h⟩ | ⟨_, _, h, _⟩
                · exact h
                · cases h
              subst gm'
              have hr := run_sliceBounds (P := P) (w := w) (isSlice := false) (len := sx.size) (cap := sx.size) gl gh gm hmh (Nat.le_refl _) (by simpa using q2) q1
              obtain ⟨k1, k2⟩ := extract_bytes sx q1 q2
              rw [mkStr_eq]
              exact ⟨.string (sx.extract (lo'.getD 0) (hi'.getD sx.size)), by simp [Instr.sliceAt, Instr.slice, hd w, hr], _, rfl, k1, k2⟩
            · cases e
        · cases e
      · -- a nil slice
        split at e
        · rename_i z hz
          obtain ⟨el, ei, hd, hei, hsz⟩ := elemSz_some H hz
          split at e
          · rename_i hb
            simp only [Bool.and_eq_true, beq_iff] at hb
            obtain ⟨⟨q1, q2⟩, q3⟩ := hb
            injection e with e; subst e
            simp only [VR] at ha; subst ha
            have hr := run_sliceBounds (P := P) (w := w) (isSlice := true) (len := 0) (cap := 0) gl gh gm hmh (by omega) (by omega) (by omega)
            refine ⟨.slice none 0 0, ?_, rfl⟩
            simp [Instr.sliceAt, Instr.slice, hd w, hr, H.size hei, q1, q2, q3]
          · cases e
        · cases e
      · split at e
        · rename_i z hz
          obtain ⟨el, ei, hd, hei, hsz⟩ := elemSz_some H hz
          split at e
          · rename_i hq
            have hq' := beq_iff.1 hq
            subst hq'
            obtain ⟨c, a, cp, hc, rfl, hadr, hlen, hcap, hex, hne⟩ := ha
            obtain ⟨r1, r2, r3, r4⟩ := sliceOf_sound (blk := 0) hc hadr hlen hcap hex hne e
            have hr := run_sliceBounds (P := P) (w := w) (isSlice := true) gl gh gm hmh r1 r2 r3
            exact ⟨_, by simp [Instr.sliceAt, Instr.slice, hd w, hr, H.size hei, hsz], r4⟩
          · cases e
        · cases e
      · unfold slicePtr at e
        split at e
        · rename_i n el htk
          obtain ⟨d, hd, hk⟩ := H.tk htk
          simp only [TKR] at hk; subst hk
          split at e
          · rename_i ei hei
            simp only at e
            split at e
            · rename_i hb
              simp only [Bool.and_eq_true, ble_iff] at hb
              obtain ⟨⟨q1, q2⟩, q3⟩ := hb
              injection e with e; subst e
              obtain ⟨c, hc, rfl⟩ := ha
              have hr := run_sliceBounds (P := P) (w := w) (isSlice := false) gl gh gm hmh q3 q2 q1
              refine ⟨_, by simp [Instr.sliceAt, hd w, hr, H.size hei, Instr.sureAddr]; rfl, ?_⟩
              unfold sliceEx
              split
              · rename_i hml
                have hml' := beq_iff.1 hml
                have : hi'.getD n - lo'.getD 0 = 0 := by omega
                rw [if_pos hml', this, hml', Nat.sub_self]
                exact ⟨c, _, 0, hc, rfl, .inl rfl, Nat.le_refl _, Nat.le_refl _, fun _ => rfl, fun q => by cases q⟩
              · rename_i hml
                have hml' := beq_not.1 hml
                simp only [force_eq]
                rw [if_neg hml']
                exact ⟨c, _, _, hc, rfl, .inr (by rw [Addr.add_mid, Nat.add_assoc]), by omega, Nat.le_refl _, fun _ => rfl, fun q => by cases q⟩
            · cases e
          · cases e
        · cases e
      · cases e
  · cases e

/-! #### Lengths -/
theorem getMap {r : Nat} {es : Array MapEntry} {clock : Nat} (hb : w.heap[r]? = some (.map es clock)) : (getObj r).run P w = .ok (.map es clock) w := by
  simp [getObj, Sem.run, hb]

theorem ER.length : ∀ {es : List (AV × AV × Nat)} {l : List MapEntry}, ER L es l → es.length = l.length
  | [], _, h => by cases h; rfl
  | _ :: _, _, ⟨_, _, e, _, _, _, k⟩ => by subst e; simp [ER.length k]

theorem amap_sound (m : MR B w0 L h w) {a : AV} {es : List (AV × AV × Nat)} (e : amap h a = some es) {x : Value} (ha : VR L a x) :
    (x = .map none ∧ es = []) ∨ ∃ r arr clock, x = .map (some r) ∧ w.heap[r]? = some (.map arr clock) ∧ ER L es arr.toList := by
  unfold amap at e
  split at e
  · injection e with e; subst e; exact .inl ⟨ha, rfl⟩
  · split at e
    · rename_i hb
      injection e with e; subst e
      obtain ⟨c, hc, rfl⟩ := ha
      obtain ⟨o', ho, arr, rfl, her⟩ := m.obj _ _ c hb hc
      exact .inr ⟨c.blk, arr, _, rfl, ho, her⟩
    · cases e
  · cases e

theorem lenOf_sound {a : AV} {n : Nat} (e : lenOf a = some n) {x : Value} (ha : VR L a x) (hs : ∀ n s, a ≠ .str n s) : ∃ b c, x = .slice b n c := by
  unfold lenOf at e
  split at e
  · injection e with e; subst e; exact ⟨none, 0, ha⟩
  · injection e with e; subst e; obtain ⟨c, a, cp, _, rfl, _⟩ := ha; exact ⟨_, _, rfl⟩
  · exact absurd rfl (hs _ _)
  · cases e

include H in
theorem alen_sound (m : MR B w0 L h w) {t : TypeId} {ts : List TypeId} {a v : AV} (e : alen E t a h = some v) {x : Value} (ha : VR L a x) (ty : TypeId) : Ans P (Builtin.len_ (t :: ts).toArray ty #[x]) w L v := by
  unfold alen at e
  split at e
  · rename_i htk
    obtain ⟨d, hd, hk⟩ := H.tk htk
    simp only [TKR] at hk; subst hk
    split at e
    · injection e with e; subst e
      obtain ⟨s, rfl, h1, h2⟩ := ha
      subst h1
      rw [mkInt_eq]
      exact ⟨goInt s.size, by simp [Builtin.len_, hd w], rfl⟩
    · cases e
  · rename_i n el htk
    obtain ⟨d, hd, hk⟩ := H.tk htk
    simp only [TKR] at hk; subst hk
    injection e with e; subst e
    rw [mkInt_eq]
    exact ⟨goInt n, by simp [Builtin.len_, hd w], rfl⟩
  · rename_i el htk
    obtain ⟨d, hd, hk⟩ := H.tk htk
    simp only [TKR] at hk; subst hk
    split at e
    · cases e
    · rename_i hs
      split at e
      · rename_i n hn
        injection e with e; subst e
        obtain ⟨b, c, rfl⟩ := lenOf_sound hn ha (fun n s q => hs n s q)
        rw [mkInt_eq]
        exact ⟨goInt n, by simp [Builtin.len_, hd w], rfl⟩
      · cases e
  · rename_i k el htk
    obtain ⟨d, hd, hk⟩ := H.tk htk
    simp only [TKR] at hk; subst hk
    split at e
    · rename_i es hes
      injection e with e; subst e
      rw [mkInt_eq]
      rcases amap_sound m hes ha with ⟨rfl, rfl⟩ | ⟨r, arr, clock, rfl, hr, her⟩
      · exact ⟨goInt 0, by simp [Builtin.len_, hd w], rfl⟩
      · refine ⟨goInt arr.size, by simp [Builtin.len_, hd w, getMap hr], ?_⟩
        have := her.length
        simp only [Array.length_toList] at this
        rw [this]; rfl
    · cases e
  · cases e

include H in
theorem acap_sound {t : TypeId} {ts : List TypeId} {a v : AV} (e : acap E t a = some v) {x : Value} (ha : VR L a x) (ty : TypeId) : Ans P (Builtin.cap_ (t :: ts).toArray ty #[x]) w L v := by
  unfold acap at e
  split at e
  · rename_i el htk
    obtain ⟨d, hd, hk⟩ := H.tk htk
    simp only [TKR] at hk; subst hk
    split at e
    · injection e with e; subst e
      simp only [VR] at ha; subst ha
      exact ⟨goInt 0, by simp [Builtin.cap_, hd w], rfl⟩
    · injection e with e; subst e
      obtain ⟨c, a, cp, _, rfl, _, _, _, hex, _⟩ := ha
      have := hex rfl
      subst this
      rw [mkInt_eq]
      exact ⟨goInt cp, by simp [Builtin.cap_, hd w], rfl⟩
    · cases e
  · cases e

theorem aminmax_sound {mx : Bool} {as : List AV} {v : AV} (e : aminmax mx as = some v) {us : List Value} (ha : VRL L as us) (ts : Array TypeId) (ty : TypeId) :
    Ans P (if mx then Builtin.max_ ts ty us.toArray else Builtin.min_ ts ty us.toArray) w L v := by
  unfold aminmax at e
  split at e
  · rename_i k a k' b
    obtain ⟨x, xs, rfl, hx, y, ys, rfl, hy, hn⟩ := ha
    cases hn
    simp only [VR] at hx hy; subst hx; subst hy
    cases mx with
    | true =>
      simp only at e; injection e with e; subst e
      exact ⟨_, by simp [Builtin.max_, Builtin.max2], rfl⟩
    | false =>
      simp only at e; injection e with e; subst e
      exact ⟨_, by simp [Builtin.min_, Builtin.min2], rfl⟩
  · cases e

theorem asliceData_sound {as : List AV} {v : AV} (e : asliceData as = some v) {us : List Value} (ha : VRL L as us) (ts : Array TypeId) (ty : TypeId) :
    Ans P (Builtin.unsafeSliceData_ ts ty us.toArray) w L v := by
  unfold asliceData at e
  split at e
  · obtain ⟨x, xs, rfl, hx, hn⟩ := ha
    cases hn
    simp only [VR] at hx; subst hx
    injection e with e; subst e
    exact ⟨.pointer none, rfl, rfl⟩
  · obtain ⟨x, xs, rfl, hx, hn⟩ := ha
    cases hn
    split at e
    · rename_i hb
      injection e with e; subst e
      have hb' := ble_iff.1 hb
      obtain ⟨c, a, cp, hc, rfl, hadr, hlen, hcap, _⟩ := hx
      have hne : cp ≠ 0 := by omega
      rcases hadr with h | h
      · exact absurd h hne
      · subst h
        refine ⟨.pointer (some ⟨c.blk, c.off + _, none⟩), ?_, c, hc, rfl⟩
        have : ∀ (a : Addr) (l cp : Nat), cp ≠ 0 → Builtin.unsafeSliceData_ ts ty #[.slice (some a) l cp] = pure (.pointer (some a)) := by
          intro a l cp h
          show (if cp ≠ 0 then _ else _) = _
          rw [if_pos h]
        exact congrArg (fun s : Sem Value => s.run P w) (this _ _ _ hne)
    · cases e
  · cases e
end
end Go.AX

namespace Go.AX
open Go Go.RowKit

section
variable {P : Program} {E : Env} (H : EnvOk P E) {B : Nat} {w0 : World} {L : Lay} {h : Heap} {w : World}

/-! #### Keys -/
include H in
theorem akey_sound (em : Bool) (k : Nat) : ∀ (d : Nat) (t : TypeId) (a : AV), akey E d t a = true → ∀ u, VR L a u → (Instr.checkKey em (k + d) t u).run P w = .ok () w := by
  intro d
  induction d with
  | zero => intro t a e; simp [akey] at e
  | succ d ih =>
    intro t a e u hu
    unfold akey at e
    rw [show k + (d + 1) = (k + d) + 1 from rfl]
    split at e
    · rename_i htk
      obtain ⟨d, hd, hk⟩ := H.tk htk
      simp only [TKR] at hk; subst hk
      cases u <;> simp [Instr.checkKey, hd w]
    · rename_i q htk
      obtain ⟨d, hd, hk⟩ := H.tk htk
      simp only [TKR] at hk; subst hk
      cases u <;> simp [Instr.checkKey, hd w]
    · rename_i htk
      obtain ⟨d, hd, hk⟩ := H.tk htk
      simp only [TKR] at hk; subst hk
      cases u <;> simp [Instr.checkKey, hd w]
    · rename_i fs htk
      obtain ⟨dd, hd, hk⟩ := H.tk htk
      obtain ⟨fields, rfl, rfl⟩ := hk
      split at e
      · obtain ⟨cs, rfl, hcs⟩ := hu
        rw [Instr.checkKey]
        simp only [Sem.run_bind, hd w, Result.andThen_ok]
        rw [← Array.forIn_toList]
        rw [List.all_map] at e
        generalize fields.toList = l at e
        induction l with
        | nil => simp
        | cons f l ih2 =>
          simp only [List.all_cons, Bool.and_eq_true, Function.comp] at e
          obtain ⟨e1, e2⟩ := e
          split at e1
          · rename_i b hb
            obtain ⟨v, hv1, hv2⟩ := part_sound H hb hcs w
            have hrun := ih _ _ e1 v hv2
            by_cases hn : f.name = "_"
            · simp only [List.forIn_cons, Sem.run_bind, hn, ne_eq, not_true_eq_false, if_false, Sem.run_pure, Result.andThen_ok]
              exact ih2 e2
            · simp only [List.forIn_cons, Sem.run_bind, hn, ne_eq, not_false_eq_true, if_true, hv1, hrun, Sem.run_pure, Result.andThen_ok]
              exact ih2 e2
          · cases e1
      · cases e
    · cases e

def flatDesc (d : TypeDesc) (k : AV) : Prop := (∃ q, d = .int q ∧ ∃ kk n, k = .int kk n) ∨ (d = .string ∧ ∃ n s, k = .str n s) ∨ (d = .bool ∧ ∃ b, k = .bool b)

theorem flatEq_same {a b : AV} (e : flatEq a b = true) {u v : Value} (hu : VR L a u) (hv : VR L b v) : ∀ n, Instr.sameBits n v u = true := by
  unfold flatEq at e
  split at e
  · simp only [VR] at hu hv; subst hu; subst hv
    simp only [Bool.and_eq_true, decide_eq_true_eq] at e
    intro n
    obtain ⟨rfl, rfl⟩ := e
    cases n <;> simp [Instr.sameBits]
  · obtain ⟨x, rfl, h1, h2⟩ := hu
    obtain ⟨y, rfl, h3, h4⟩ := hv
    have : (y == x) = true := by
      rw [beq_bytes, h1, h2, h3, h4]
      simp only [Bool.and_eq_true, beq_iff] at e
      obtain ⟨rfl, rfl⟩ := e
      simp [sEq]
    intro n
    cases n <;> simpa [Instr.sameBits] using this
  · simp only [VR] at hu hv; subst hu; subst hv
    intro n
    have := (beq_iff_eq.1 e).symm
    cases n <;> simpa [Instr.sameBits] using this
  · cases e

theorem flatEqL_same (n : Nat) : ∀ {xs ys : List AV} {us vs : List Value}, flatEqL xs ys = true → VRL L xs us → VRL L ys vs → (vs.zip us).all (fun p => Instr.sameBits n p.1 p.2) = true
  | [], [], _, _, _, hu, hv => by cases hu; cases hv; rfl
  | [], _ :: _, _, _, e, _, _ => by simp [flatEqL] at e
  | _ :: _, [], _, _, e, _, _ => by simp [flatEqL] at e
  | a :: xs, b :: ys, _, _, e, ⟨u, us, e1, hu, hus⟩, ⟨v, vs, e2, hv, hvs⟩ => by
    subst e1; subst e2
    simp only [flatEqL, Bool.and_eq_true] at e
    simp only [List.zip_cons_cons, List.all_cons, Bool.and_eq_true]
    exact ⟨flatEq_same e.1 hu hv n, flatEqL_same n e.2 hus hvs⟩
theorem flatEqL_length : ∀ {xs ys : List AV}, flatEqL xs ys = true → xs.length = ys.length
  | [], [], _ => rfl
  | [], _ :: _, e => by simp [flatEqL] at e
  | _ :: _, [], e => by simp [flatEqL] at e
  | _ :: xs, _ :: ys, e => by simp only [flatEqL, Bool.and_eq_true] at e; simp [flatEqL_length e.2]

theorem sameK_flat {t : TypeId} {d : TypeDesc} {k k' : AV} {r : Bool} (e : sameK E h t k k' = some r) (hf : flatDesc d k) {u u' : Value} (hu : VR L k u) (hu' : VR L k' u') :
    Instr.sameNow d u u' = some r ∧ (r = true → Instr.sameBits 10000 u' u = true) := by
  unfold sameK at e
  split at e
  · split at e
    · rename_i hk; subst hk
      injection e with e; subst e
      simp only [VR] at hu hu'; subst hu; subst hu'
      rcases hf with ⟨q, rfl, _⟩ | ⟨_, _, _, h⟩ | ⟨_, _, h⟩
      · refine ⟨by simp [Instr.sameNow, beq_dec], fun hr => ?_⟩
        simp only [decide_eq_true_eq] at hr
        subst hr
        simp [Instr.sameBits]
      · cases h
      · cases h
    · cases e
  · injection e with e; subst e
    obtain ⟨x, rfl, h1, h2⟩ := hu
    obtain ⟨y, rfl, h3, h4⟩ := hu'
    rcases hf with ⟨_, _, _, _, h⟩ | ⟨rfl, _⟩ | ⟨_, _, h⟩
    · cases h
    · refine ⟨by rw [← h1, ← h2, ← h3, ← h4, ← beq_bytes]; rfl, fun hr => ?_⟩
      have : (y == x) = true := by
        rw [beq_bytes, h1, h2, h3, h4]
        simp only [sEq, Bool.and_eq_true, beq_iff] at hr ⊢
        exact ⟨hr.1.symm, hr.2.symm⟩
      simpa [Instr.sameBits] using this
    · cases h
  · injection e with e; subst e
    simp only [VR] at hu hu'; subst hu; subst hu'
    rcases hf with ⟨_, _, _, _, h⟩ | ⟨_, _, _, h⟩ | ⟨rfl, _⟩
    · cases h
    · cases h
    · refine ⟨by simp [Instr.sameNow], fun hr => ?_⟩
      have := (beq_iff_eq.1 hr).symm
      simpa [Instr.sameBits] using this
  · rcases hf with ⟨_, _, _, _, h⟩ | ⟨_, _, _, h⟩ | ⟨_, _, h⟩ <;> cases h
  · cases e

/-- what is found of a key -/
def Found (L : Lay) (u : Value) (i : Nat) (arr : List MapEntry) (r : Option (Nat × AV × Nat)) (q : Option (Nat × Value)) : Prop :=
  (r = none ∧ q = none) ∨ ∃ j e v, r = some (i + j, v, e.born) ∧ arr[j]? = some e ∧ VR L v e.val ∧ Instr.sameBits 10000 e.key u = true ∧ q = some (i + j, e.val)

theorem Found.skip {u : Value} {i : Nat} {x : MapEntry} {arr : List MapEntry} {r : Option (Nat × AV × Nat)} {q : Option (Nat × Value)} (f : Found L u (i + 1) arr r q) : Found L u i (x :: arr) r q := by
  rcases f with h | ⟨j, e, v, h1, h2, h3, h4, h5⟩
  · exact .inl h
  · exact .inr ⟨j + 1, e, v, by rw [h1]; congr 2; omega, by simpa using h2, h3, h4, by rw [h5]; congr 2; omega⟩

theorem findNow_sound {t : TypeId} {d : TypeDesc} {k : AV} (hf : flatDesc d k) {u : Value} (hu : VR L k u) : ∀ {es : List (AV × AV × Nat)} {arr : List MapEntry} {i : Nat} {r : Option (Nat × AV × Nat)}, afind E h t k es i = some r → ER L es arr →
    ∃ q, Instr.findNow d u arr i = some q ∧ Found L u i arr r q
  | [], _, i, r, e, her => by
    cases her
    simp [afind] at e
    subst e
    exact ⟨none, rfl, .inl ⟨rfl, rfl⟩⟩
  | x :: es, _, i, r, e, ⟨y, ys, e1, h1, h2, h3, her⟩ => by
    subst e1
    simp only [afind] at e
    split at e
    · rename_i hs
      injection e with e; subst e
      obtain ⟨g1, g2⟩ := sameK_flat hs hf hu h1
      refine ⟨some (i, y.val), by simp [Instr.findNow, g1], .inr ⟨0, y, x.2.1, by rw [h3]; rfl, rfl, h2, g2 rfl, rfl⟩⟩
    · rename_i hs
      obtain ⟨g1, _⟩ := sameK_flat hs hf hu h1
      obtain ⟨q, hq, hfd⟩ := findNow_sound hf hu e her
      exact ⟨q, by simp [Instr.findNow, g1, hq], hfd.skip⟩
    · cases e

include H in
theorem sameK_agg (m : MR B w0 L h w) {t : TypeId} {cs : List AV} {k' : AV} {r : Bool} (e : sameK E h t (.agg cs) k' = some r) {u u' : Value} (hu : VR L (.agg cs) u) (hu' : VR L k' u') :
    (Op.equal t u u').run P w = .ok r w ∧ (r = true → Instr.sameBits 10000 u' u = true) := by
  cases k' <;> simp only [sameK, reduceCtorEq] at e
  rename_i ys
  have key : ∀ r, aeq E h 40 t (.agg cs) (.agg ys) = some r → (Op.equal t u u').run P w = .ok r w := fun r hr => aeq_sound H m 9960 40 t _ _ r hr u u' hu hu'
  split at e
  · rename_i hq
    split at e
    · rename_i hfl
      injection e with e; subst e
      refine ⟨key _ hq, fun _ => ?_⟩
      obtain ⟨xs, rfl, hxs⟩ := hu
      obtain ⟨zs, rfl, hzs⟩ := hu'
      have hl := flatEqL_length hfl
      have l1 := hxs.length
      have l2 := hzs.length
      simp only [Array.length_toList] at l1 l2
      have hsz : zs.size = xs.size := by omega
      show Instr.sameBits (9999 + 1) _ _ = true
      simp only [Instr.sameBits, Bool.and_eq_true, hsz, beq_self_eq_true, true_and]
      exact flatEqL_same 9999 hfl hxs hzs
    · cases e
  · cases hr : r with
    | true => subst hr; rename_i hne; exact absurd e hne
    | false => subst hr; exact ⟨key _ e, fun q => by cases q⟩

include H in
theorem findAsking_sound (m : MR B w0 L h w) {t : TypeId} {cs : List AV} {u : Value} (hu : VR L (.agg cs) u) : ∀ {es : List (AV × AV × Nat)} {arr : List MapEntry} {i : Nat} {r : Option (Nat × AV × Nat)}, afind E h t (.agg cs) es i = some r → ER L es arr →
    ∃ q, (Instr.findAsking t u arr i).run P w = .ok q w ∧ Found L u i arr r q
  | [], _, i, r, e, her => by
    cases her
    simp [afind] at e
    subst e
    exact ⟨none, rfl, .inl ⟨rfl, rfl⟩⟩
  | x :: es, _, i, r, e, ⟨y, ys, e1, h1, h2, h3, her⟩ => by
    subst e1
    simp only [afind] at e
    split at e
    · rename_i hs
      injection e with e; subst e
      obtain ⟨g1, g2⟩ := sameK_agg H m hs hu h1
      refine ⟨some (i, y.val), by simp [Instr.findAsking, g1], .inr ⟨0, y, x.2.1, by rw [h3]; rfl, rfl, h2, g2 rfl, rfl⟩⟩
    · rename_i hs
      obtain ⟨g1, _⟩ := sameK_agg H m hs hu h1
      obtain ⟨q, hq, hfd⟩ := findAsking_sound m hu e her
      exact ⟨q, by simp [Instr.findAsking, g1, hq], hfd.skip⟩
    · cases e

include H in
theorem findKey_sound (m : MR B w0 L h w) {t : TypeId} {k : AV} (hok : keyOk E t k = true) {u : Value} (hu : VR L k u) {es : List (AV × AV × Nat)} {arr : List MapEntry} {r : Option (Nat × AV × Nat)} (e : afind E h t k es 0 = some r) (her : ER L es arr) :
    (∀ em, (Instr.checkKey em 10000 t u).run P w = .ok () w) ∧ ∃ q, (Instr.findKey t u arr).run P w = .ok q w ∧ Found L u 0 arr r q := by
  have flat : ∀ {d : TypeDesc}, (∀ w, (underlying t).run P w = .ok d w) → flatDesc d k → (∀ em, (Instr.checkKey em 10000 t u).run P w = .ok () w) ∧ ∃ q, (Instr.findKey t u arr).run P w = .ok q w ∧ Found L u 0 arr r q := by
    intro d hd hf
    constructor
    · intro em
      have : ∀ n, (Instr.checkKey em (n + 1) t u).run P w = .ok () w := by
        intro n
        rcases hf with ⟨q, rfl, _⟩ | ⟨rfl, _⟩ | ⟨rfl, _⟩ <;> cases u <;> simp [Instr.checkKey, hd w]
      exact this 9999
    · obtain ⟨q, h1, h2⟩ := findNow_sound (L := L) hf hu e her
      exact ⟨q, by simp [Instr.findKey, hd w, h1], h2⟩
  unfold keyOk at hok
  split at hok
  · rename_i q kk n htk
    obtain ⟨d, hd, hk⟩ := H.tk htk
    simp only [TKR] at hk; subst hk
    exact flat hd (.inl ⟨_, rfl, _, _, rfl⟩)
  · rename_i n s htk
    obtain ⟨d, hd, hk⟩ := H.tk htk
    simp only [TKR] at hk; subst hk
    exact flat hd (.inr (.inl ⟨rfl, _, _, rfl⟩))
  · rename_i b htk
    obtain ⟨d, hd, hk⟩ := H.tk htk
    simp only [TKR] at hk; subst hk
    exact flat hd (.inr (.inr ⟨rfl, _, rfl⟩))
  · rename_i fs cs htk
    obtain ⟨d, hd, fields, rfl, rfl⟩ := H.tk htk
    refine ⟨fun em => akey_sound H em 9992 8 t _ hok u hu, ?_⟩
    obtain ⟨q, h1, h2⟩ := findAsking_sound H m hu e her
    refine ⟨q, ?_, h2⟩
    cases arr with
    | nil =>
      have : q = none := by simp [Instr.findAsking] at h1; exact h1.symm
      subst this
      simp [Instr.findKey, hd w, Instr.findNow]
    | cons y ys =>
      have hsn : Instr.sameNow (.struct fields) u y.key = none := by cases u <;> rfl
      simp [Instr.findKey, hd w, Instr.findNow, hsn, h1]
  · cases hok

include H in
theorem alookup_sound (m : MR B w0 L h w) {t : TypeId} {a k v : AV} {ok : Bool} (e : alookup E t a k ok h = some v) {x u : Value} (ha : VR L a x) (hu : VR L k u) : Ans P (Instr.lookup t x u ok) w L v := by
  unfold alookup at e
  split at e
  · rename_i kt et htk
    obtain ⟨d, hd, hk⟩ := H.tk htk
    simp only [TKR] at hk; subst hk
    split at e
    · rename_i es hes
      split at e
      · rename_i hok
        rcases amap_sound m hes ha with ⟨rfl, rfl⟩ | ⟨r, arr, clock, rfl, hr, her⟩
        · simp only [afind] at e
          obtain ⟨hck, q, hq, hf⟩ := findKey_sound H m (arr := []) hok hu (es := []) rfl rfl
          have hq0 : q = none := by
            rcases hf with ⟨_, h⟩ | ⟨j, _, _, h, _⟩
            · exact h
            · cases h
          subst hq0
          split at e
          · rename_i ei hei
            obtain ⟨z, hz, hzr, _⟩ := H.zero hei
            cases ok <;> simp only at e <;> injection e with e <;> subst e
            · exact ⟨z, by simp [Instr.lookup, hd w, hck, hq, hz w], hzr L⟩
            · exact ⟨_, by simp [Instr.lookup, hd w, hck, hq, hz w], _, rfl, _, _, rfl, hzr L, _, _, rfl, rfl, rfl⟩
          · cases e
        · split at e
          · rename_i r0 hr0
            obtain ⟨hck, q, hq, hf⟩ := findKey_sound H m hok hu hr0 her
            rcases hf with ⟨h, _⟩ | ⟨j, y, v0, h1, h2, h3, h4, h5⟩
            · cases h
            · injection h1 with h1
              subst h1; subst h5
              cases ok <;> simp only at e <;> injection e with e <;> subst e
              · exact ⟨y.val, by simp [Instr.lookup, hd w, getMap hr, hck, hq], h3⟩
              · exact ⟨.tuple #[y.val, .bool true], by simp [Instr.lookup, hd w, getMap hr, hck, hq], _, rfl, _, _, rfl, h3, _, _, rfl, rfl, rfl⟩
          · rename_i hr0
            obtain ⟨hck, q, hq, hf⟩ := findKey_sound H m hok hu hr0 her
            have hq0 : q = none := by
              rcases hf with ⟨_, h⟩ | ⟨j, _, _, h, _⟩
              · exact h
              · cases h
            subst hq0
            split at e
            · rename_i ei hei
              obtain ⟨z, hz, hzr, _⟩ := H.zero hei
              cases ok <;> simp only at e <;> injection e with e <;> subst e
              · exact ⟨z, by simp [Instr.lookup, hd w, getMap hr, hck, hq, hz w], hzr L⟩
              · exact ⟨.tuple #[z, .bool false], by simp [Instr.lookup, hd w, getMap hr, hck, hq, hz w], _, rfl, _, _, rfl, hzr L, _, _, rfl, rfl, rfl⟩
            · cases e
          · cases e
      · cases e
    · cases e
  · cases e

theorem lastN_back {l : List Nat} {n : Nat} (e : lastN l = some n) : l.toArray.back? = some n := by
  rw [List.back?_toArray]
  induction l with
  | nil => simp [lastN] at e
  | cons x l ih => cases l with
    | nil => simpa [lastN] using e
    | cons y l => rw [List.getLast?_cons_cons]; exact ih e

theorem findE_sound {stamp : Nat} : ∀ {es : List (AV × AV × Nat)} {arr : List MapEntry} {e : AV × AV × Nat}, findE stamp es = some e → ER L es arr → ∃ x, arr.find? (·.born == stamp) = some x ∧ VR L e.1 x.key ∧ VR L e.2.1 x.val
  | [], _, _, q, _ => by simp [findE] at q
  | y :: es, _, e, q, ⟨x, xs, e1, h1, h2, h3, h4⟩ => by
    subst e1
    simp only [findE] at q
    split at q
    · rename_i hq
      injection q with q; subst q
      have := beq_iff.1 hq
      exact ⟨x, by simp [← h3, this], h1, h2⟩
    · rename_i hq
      have := beq_not.1 hq
      obtain ⟨z, hz, k1, k2⟩ := findE_sound q h4
      refine ⟨z, ?_, k1, k2⟩
      rw [List.find?_cons_of_neg (by simp [← h3, this])]
      exact hz

theorem getIter {r : Nat} {o : Obj} (hb : w.heap[r]? = some o) (ho : ∀ a b c, o ≠ .cells a b c) : (getObj r).run P w = .ok o w := by
  simp only [getObj, Sem.run, hb]

theorem aentry_sound (m : MR B w0 L h w) {a v : AV} (e : aentry a h = some v) {x : Value} (ha : VR L a x) : Ans P (Instr.entry x) w L v := by
  unfold aentry at e
  split at e
  · split at e
    · rename_i r mm since seen stepped hr
      split at e
      · rename_i es clock hm
        split at e
        · rename_i stamp hst
          split at e
          · rename_i hck
            have hck' := beq_iff.1 hck
            split at e
            · rename_i en hen
              injection e with e; subst e
              obtain ⟨c, hc, rfl⟩ := ha
              obtain ⟨o', ho, hoff, d, hd, rfl⟩ := m.obj _ _ c hr hc
              obtain ⟨o2, ho2, arr, rfl, her⟩ := m.obj _ _ d hm hd
              obtain ⟨y, hy, k1, k2⟩ := findE_sound hen her
              have hy' : arr.find? (fun e => e.born == stamp) = some y := by rw [← Array.find?_toList]; exact hy
              refine ⟨.tuple #[y.key, y.val], ?_, _, rfl, _, _, rfl, k1, _, _, rfl, k2, rfl⟩
              rw [hoff]
              have g1 : (getObj c.blk).run P w = .ok (.mapIter (some d.blk) since seen.toArray stepped) w := getIter ho (by simp)
              have g2 : (getObj d.blk).run P w = .ok (.map arr clock) w := getIter ho2 (by simp)
              simp [Instr.entry, g1, g2, lastN_back hst, hck', hy']
            · cases e
          · cases e
        · cases e
      · cases e
    · cases e
  · cases e

/-! #### Conversions -/
theorem packCells_ints : ∀ {l : List AV} {n s : Nat} {v : AV} {vs : List Value}, packCells l n s = some v → VRL L l vs → ∃ ns : List Int, vs = ns.map (Value.int .u8) ∧ ∀ acc : ByteArray, acc.size = n → packN (bytesN acc) = s →
      VR L v (.string (ns.foldl (fun r n => r.push (UInt8.ofNat n.toNat)) acc))
  | [], n, s, v, _, e, h => by
    cases h
    simp only [packCells] at e
    injection e with e; subst e
    exact ⟨[], rfl, fun acc h1 h2 => ⟨acc, rfl, h1, h2⟩⟩
  | x :: l, n, s, v, _, e, ⟨y, ys, e1, h1, h2⟩ => by
    subst e1
    have hx : ∃ c, x = .int .u8 c ∧ packCells l (n + 1) (s * 256 + c.toNat % 256) = some v := by
      unfold packCells at e
      split at e
      · rename_i q; cases q
      · rename_i q
        injection q with q1 q2; subst q2
        rw [force_eq, force_eq] at e
        exact ⟨_, q1, e⟩
      · cases e
    obtain ⟨c, rfl, e2⟩ := hx
    clear e
    · skip
      simp only [VR] at h1; subst h1
      obtain ⟨ns, rfl, hns⟩ := packCells_ints e2 h2
      refine ⟨c :: ns, rfl, fun acc g1 g2 => ?_⟩
      rw [List.foldl_cons]
      apply hns
      · rw [ByteArray.size_push, g1]
      · have : bytesN (acc.push (UInt8.ofNat c.toNat)) = bytesN acc ++ [c.toNat % 256] := by simp [bytesN]
        rw [this, packN_snoc, g2]

theorem firstN_sound (m : MR B w0 L h w) {a : AV} {esz n : Nat} {cs : List AV} (e : sliceCells h a esz n = some cs) {x : Value} (ha : VR L a x) :
    (a = .nils ∧ n = 0 ∧ cs = []) ∨ (∃ len s, a = .str len s) ∨ ∃ c b o len cap ex ad cp l ex' el fz ro, a = .slice b o len cap esz ex ∧ n ≤ len ∧ L b = some c ∧ x = .slice (some ad) len cp ∧ len ≤ cp ∧
      (cp = 0 ∨ ad = ⟨c.blk, c.off + o, none⟩) ∧ h.get b = some (.cells l ex' el fz ro) ∧ lcut l o (n * esz) = some cs := by
  unfold sliceCells at e
  split at e
  · split at e
    · injection e with e; exact .inl ⟨rfl, rfl, e.symm⟩
    · cases e
  · split at e
    · rename_i hb
      simp only [Bool.and_eq_true, beq_iff, ble_iff] at hb
      obtain ⟨rfl, hle⟩ := hb
      split at e
      · rename_i l hl
        unfold acells at hl
        split at hl
        · rename_i l' ex' el fz ro hg
          injection hl with hl; subst hl
          obtain ⟨c, ad, cp, hc, rfl, hadr, hlen, _⟩ := ha
          exact .inr (.inr ⟨c, _, _, _, _, _, ad, cp, _, _, _, _, _, rfl, hle, hc, rfl, hlen, hadr, hg, e⟩)
        · cases hl
      · cases e
    · cases e
  · exact .inr (.inl ⟨_, _, rfl⟩)
  · cases e

/-- the cells of a slice's first elements are loaded -/
theorem firstN_run (m : MR B w0 L h w) {c : Loc} {b o len esz n : Nat} {ad : Addr} {cp : Nat} {l : List AV} {ex' : Bool} {el : TypeId} {fz : Nat} {ro : Bool} {cs : List AV} (hc : L b = some c) (hle : n ≤ len) (hlen : len ≤ cp)
    (hadr : cp = 0 ∨ ad = ⟨c.blk, c.off + o, none⟩) (hg : h.get b = some (.cells l ex' el fz ro)) (hcut : lcut l o (n * esz) = some cs) :
    ∃ vs : List Value, vs.length = n * esz ∧ VRL L cs vs ∧ (∀ j v, vs[j]? = some v → w.cell? (ad.add j) = some v) ∧ (loadCells ad (n * esz)).run P w = .ok vs.toArray w := by
  obtain ⟨vs, h1, h2, h3⟩ := m.cut hg hc hcut
  have h4 : ∀ j v, vs[j]? = some v → w.cell? (ad.add j) = some v := by
    intro j v hj
    rcases hadr with q | q
    · have : vs.length = 0 := by rw [h1, show n = 0 by omega]; simp
      have : vs = [] := by simpa using this
      subst this; cases hj
    · subst q; rw [Addr.add_mid]; exact h3 j v hj
  exact ⟨vs, h1, h2, h4, by rw [← h1]; exact run_loadCells_list (P := P) w ad vs h4⟩
end
end Go.AX

namespace Go.AX
open Go Go.RowKit

section
variable {P : Program} {E : Env} (H : EnvOk P E) {B : Nat} {w0 : World} {L : Lay} {h : Heap} {w : World}

theorem encode_ascii {c : Nat} (h : c < 128) : Utf8.encode (c : Int) = ⟨#[UInt8.ofNat c]⟩ := by
  have hv : Utf8.valid (c : Int) = true := by
    unfold Utf8.valid
    simp
    omega
  simp only [Utf8.encode, hv, if_true, Int.toNat_natCast]
  rw [if_pos (by omega)]

theorem packRunes_ints : ∀ {l : List AV} {n s : Nat} {v : AV} {vs : List Value}, packRunes l n s = some v → VRL L l vs → ∃ ns : List Nat, vs = ns.map (fun n : Nat => Value.int .i32 (n : Int)) ∧ (∀ n ∈ ns, n < 128) ∧ ∀ acc : ByteArray, acc.size = n → packN (bytesN acc) = s →
      VR L v (.string (ns.foldl (fun r (n : Nat) => r ++ Utf8.encode (n : Int)) acc))
  | [], n, s, v, _, e, h => by
    cases h
    simp only [packRunes] at e
    injection e with e; subst e
    exact ⟨[], rfl, by simp, fun acc h1 h2 => ⟨acc, rfl, h1, h2⟩⟩
  | x :: l, n, s, v, _, e, ⟨y, ys, e1, h1, h2⟩ => by
    subst e1
    have hx : ∃ c : Nat, x = .int .i32 (.ofNat c) ∧ c < 128 ∧ packRunes l (n + 1) (s * 256 + c) = some v := by
      unfold packRunes at e
      split at e
      · rename_i q; cases q
      · rename_i q
        injection q with q1 q2; subst q2
        split at e
        · rename_i hlt
          rw [force_eq, force_eq] at e
          exact ⟨_, q1, blt_iff.1 hlt, e⟩
        · cases e
      · cases e
    obtain ⟨c, rfl, hlt, e2⟩ := hx
    clear e
    simp only [VR] at h1; subst h1
    obtain ⟨ns, rfl, hlts, hns⟩ := packRunes_ints e2 h2
    refine ⟨c :: ns, rfl, fun m hm => ?_, fun acc g1 g2 => ?_⟩
    · rcases List.mem_cons.1 hm with rfl | hm
      · exact hlt
      · exact hlts m hm
    rw [List.foldl_cons, encode_ascii hlt]
    apply hns
    · rw [ByteArray.size_append, g1]; rfl
    · have : bytesN (acc ++ ⟨#[UInt8.ofNat c]⟩) = bytesN acc ++ [c] := by simp [bytesN]; omega
      rw [this, packN_snoc, g2]

theorem run_forIn_runes (f : Value → ByteArray → Sem (ForInStep ByteArray))
    (hf : ∀ (n : Int) (r : ByteArray), (f (.int .i32 n) r).run P w = .ok (.yield (r ++ Utf8.encode n)) w) :
    ∀ (ns : List Nat) (s : ByteArray), (forIn (ns.map (fun n : Nat => Value.int .i32 (n : Int))) s f).run P w = .ok (ns.foldl (fun r (n : Nat) => r ++ Utf8.encode (n : Int)) s) w := by
  intro ns
  induction ns with
  | nil => intro s; simp [Sem.run_pure]
  | cons n ns ih =>
    intro s
    simp only [List.map_cons, List.forIn_cons, Sem.run_bind, hf, Result.andThen, List.foldl_cons]
    exact ih _

theorem run_runesToString (a : Addr) (len cap : Nat) (ns : List Nat)
    (h : (loadCells a len).run P w = .ok (ns.map (fun n : Nat => Value.int .i32 (n : Int))).toArray w) :
    (Conv.runesToString (.slice (some a) len cap)).run P w = .ok (.string (ns.foldl (fun r (n : Nat) => r ++ Utf8.encode (n : Int)) ByteArray.empty)) w := by
  unfold Conv.runesToString
  simp only [Sem.run_bind, h, Result.andThen, List.forIn_toArray]
  rw [run_forIn_runes _ (by intro n r; simp [Sem.run_pure])]
  simp [Sem.run_pure]

include H in
theorem convToStr_sound (m : MR B w0 L h w) {src dst : TypeId} {a v : AV} (e : convToStr E src a h = some v) {x : Value} (ha : VR L a x) (hdst : ∀ w, (underlying dst).run P w = .ok .string w) : Ans P (convert src dst x) w L v := by
  unfold convToStr at e
  split at e
  · rename_i el htk
    obtain ⟨d, hd, hk⟩ := H.tk htk
    simp only [TKR] at hk; subst hk
    split at e
    · rename_i ei hel hei
      obtain ⟨d2, hd2, hk2⟩ := H.tk hel
      simp only [TKR] at hk2; subst hk2
      split at e
      · rename_i n hn
        split at e
        · cases e
        · rename_i hs
          split at e
          · split at e
            · rename_i l hl
              have hconv : ∀ b l c, (convert src dst (.slice b l c)).run P w = (Conv.bytesToString (.slice b l c)).run P w := by
                intro b l c
                simp [convert, hd w, hdst w, hd2 w]
              rcases firstN_sound m hl ha with ⟨rfl, rfl, rfl⟩ | ⟨len, s, rfl⟩ | ⟨c, b, o, len, cap, ex, ad, cp, l', ex', el', fz, ro, rfl, hle, hc, rfl, hlen, hadr, hg, hcut⟩
              · simp only [VR] at ha; subst ha
                simp only [packCells] at e
                injection e with e; subst e
                refine ⟨.string .empty, by rw [hconv]; simp [Conv.bytesToString], _, rfl, rfl, rfl⟩
              · exact absurd rfl (hs _ _)
              · simp only [lenOf] at hn
                injection hn with hn; subst hn
                obtain ⟨vs, h1, h2, h3, h4⟩ := firstN_run (P := P) m hc hle hlen hadr hg hcut
                obtain ⟨ns, rfl, hns⟩ := packCells_ints e h2
                rw [Nat.mul_one] at h4
                exact ⟨_, by rw [hconv]; exact run_bytesToString (P := P) w ad len cp ns h4, hns .empty rfl rfl⟩
            · cases e
          · cases e
      · cases e
    · rename_i ei hel hei
      obtain ⟨d2, hd2, hk2⟩ := H.tk hel
      simp only [TKR] at hk2; subst hk2
      split at e
      · rename_i n hn
        split at e
        · cases e
        · rename_i hs
          split at e
          · split at e
            · rename_i l hl
              have hconv : ∀ b l c, (convert src dst (.slice b l c)).run P w = (Conv.runesToString (.slice b l c)).run P w := by
                intro b l c
                simp [convert, hd w, hdst w, hd2 w]
              rcases firstN_sound m hl ha with ⟨rfl, rfl, rfl⟩ | ⟨len, s, rfl⟩ | ⟨c, b, o, len, cap, ex, ad, cp, l', ex', el', fz, ro, rfl, hle, hc, rfl, hlen, hadr, hg, hcut⟩
              · simp only [VR] at ha; subst ha
                simp only [packRunes] at e
                injection e with e; subst e
                refine ⟨.string .empty, by rw [hconv]; simp [Conv.runesToString], _, rfl, rfl, rfl⟩
              · exact absurd rfl (hs _ _)
              · simp only [lenOf] at hn
                injection hn with hn; subst hn
                obtain ⟨vs, h1, h2, h3, h4⟩ := firstN_run (P := P) m hc hle hlen hadr hg hcut
                obtain ⟨ns, rfl, _, hns⟩ := packRunes_ints e h2
                rw [Nat.mul_one] at h4
                exact ⟨_, by rw [hconv]; exact run_runesToString (P := P) (w := w) ad len cp ns h4, hns .empty rfl rfl⟩
            · cases e
          · cases e
      · cases e
    · cases e
  · cases e

/-! #### Pointers without a type -/
theorem depth_succ (p : Program) : ∃ k, p.depth = k + 1 := ⟨_, rfl⟩
theorem sameLayout_refl (p : Program) (k : Nat) (t : TypeId) : sameLayout p (k + 1) t t = true := by
  simp [sameLayout]
theorem rowAt_whole (p : Program) {fits : TypeId → Bool} {u : TypeId} {count : Nat} (hc : p.cellsOf u ≠ 0) (hn : 1 ≤ count) (hf : fits u = true) (k : Nat) : rowAt p fits (k + 1) u count 0 1 = true := by
  unfold rowAt
  simp only [hc, if_false, Nat.zero_div, Nat.zero_mod]
  simp [hf, hn]
theorem liesAt_whole (p : Program) {u : TypeId} {count : Nat} (hc : p.cellsOf u ≠ 0) (hn : 1 ≤ count) : liesAt p p.depth u count 0 u 1 = true := by
  obtain ⟨k, hk⟩ := depth_succ p
  have h1 : rowAt p (sameLayout p p.depth · u) p.depth u count 0 1 = true := by
    rw [hk]
    exact rowAt_whole (fits := fun x => sameLayout p (k + 1) x u) p hc hn (sameLayout_refl p k u) k
  rw [hk] at h1 ⊢
  unfold liesAt
  rw [hk, h1]
  rfl

theorem shapeOf {k : Nat} {arr : Array Value} {el : TypeId} {fr : Nat × Nat} (hk : w.heap[k]? = some (.cells arr el fr)) : w.shape? k = some (el, arr.size) := by
  simp [World.shape?, hk]
theorem shape_run {k : Nat} {arr : Array Value} {el : TypeId} {fr : Nat × Nat} (hk : w.heap[k]? = some (.cells arr el fr)) : (shape k).run P w = .ok (some (el, arr.size)) w := by
  simp [shape, Sem.run, World.shape?, hk]

theorem seenAt_run {k o : Nat} {arr : Array Value} {el : TypeId} {fr : Nat × Nat} (hk : w.heap[k]? = some (.cells arr el fr)) : (Conv.seenAt ⟨k, o, none⟩).run P w = .ok ⟨k, o, none⟩ w := by
  simp [Conv.seenAt, viewAt_cells hk]

include H in
theorem convToPtr_sound (m : MR B w0 L h w) {src dst : TypeId} {b o : Nat} {v : AV} (e : convToPtr E src dst b o h = some v) {x : Value} (ha : VR L (.ptr b o) x) : Ans P (convert src dst x) w L v := by
  obtain ⟨c, hc, rfl⟩ := ha
  unfold convToPtr at e
  split at e
  · rename_i htk
    obtain ⟨d, hd, hk⟩ := H.tk htk
    simp only [TKR] at hk; subst hk
    split at e
    · rename_i el htk2
      obtain ⟨d2, hd2, hk2⟩ := H.tk htk2
      simp only [TKR] at hk2; subst hk2
      split at e
      · rename_i l ei hl hei
        split at e
        · rename_i hb
          injection e with e; subst e
          simp only [Bool.and_eq_true, Bool.not_eq_true', beq_not, blt_iff] at hb
          obtain ⟨q1, q2⟩ := hb
          unfold acells at hl
          split at hl
          · rename_i l' ex' el' fz ro hg
            injection hl with hl; subst hl
            obtain ⟨arr, fr, xs, rest, h1, h2, h3, h4, _⟩ := m.cells hg hc
            have hlen := h4.length
            have hl3 := congrArg List.length h3
            simp only [List.length_drop, Array.length_toList, List.length_append] at hl3
            have hlt : ¬ (arr.size ≤ c.off + o) := by omega
            refine ⟨.pointer (some ⟨c.blk, c.off + o, none⟩), ?_, c, hc, rfl⟩
            simp [convert, hd w, hd2 w, Conv.unsafePointer, seenAt_run h1, cellsIn, shapeOf h1, H.size hei, q1, hlt]
          · cases hl
        · cases e
      · cases e
    · cases e
  · rename_i u htk
    obtain ⟨d, hd, hk⟩ := H.tk htk
    simp only [TKR] at hk; subst hk
    split at e
    · rename_i htk2
      obtain ⟨d2, hd2, hk2⟩ := H.tk htk2
      simp only [TKR] at hk2; subst hk2
      split at e
      · rename_i l ex el fz ro ui hg hui
        split at e
        · rename_i hb
          injection e with e; subst e
          simp only [Bool.and_eq_true, Bool.not_eq_true', beq_not, beq_iff, ble_iff] at hb
          obtain ⟨⟨⟨q1, q2⟩, q3⟩, q4⟩ := hb
          subst q2
          obtain ⟨arr, fr, xs, rest, h1, h2, h3, h4, h5, h6, h7, h8⟩ := m.cells hg hc
          have hoff := h8 q1
          have hrest := h5 q1
          subst hrest
          have hlen := h4.length
          have hl3 := congrArg List.length h3
          simp only [List.length_drop, Array.length_toList, List.length_append, List.length_nil] at hl3
          obtain ⟨inf, hinf, _, hi3, _⟩ := H.info hui
          have hcells : P.cellsOf el = ui.size := by simp [Program.cellsOf, hinf, hi3]
          have hlie : liesAt P P.depth el (arr.size / P.cellsOf el) 0 el 1 = true := by
            apply liesAt_whole
            · rw [hcells]; exact q3
            · rw [hcells, Nat.le_div_iff_mul_le (by omega)]; omega
          refine ⟨.pointer (some ⟨c.blk, c.off + 0, none⟩), ?_, c, hc, rfl⟩
          rw [hoff] at *
          simp [convert, hd w, hd2 w, Conv.unsafePointer, seenAt_run h1, H.size hui, q3, variablesAt, shapeOf h1, hlie]
        · cases e
      · cases e
    · cases e
  · cases e

include H in
theorem aconvert_val (m : MR B w0 L h w) {src dst : TypeId} {a v : AV} (e : aconvert E src dst a h = .val v) {x : Value} (ha : VR L a x) (hsrc : ∃ d, ∀ w, (underlying src).run P w = .ok d w) : Ans P (convert src dst x) w L v := by
  obtain ⟨d0, hd0⟩ := hsrc
  unfold aconvert at e
  split at e
  · rename_i k n
    split at e
    · rename_i k' htk
      obtain ⟨d, hd, hk⟩ := H.tk htk
      simp only [TKR] at hk; subst hk
      injection e with e; subst e
      simp only [VR] at ha; subst ha
      rw [mkInt_eq]
      exact ⟨.int k' (k'.wrap n), by cases d0 <;> simp [convert, hd0 w, hd w, Conv.intToInt], by simp [VR, awrap_eq]⟩
    · cases e
  · split at e
    · rename_i htk
      obtain ⟨d, hd, hk⟩ := H.tk htk
      simp only [TKR] at hk; subst hk
      injection e with e; subst e
      obtain ⟨s, rfl, h1, h2⟩ := ha
      exact ⟨.string s, by cases d0 <;> simp [convert, hd0 w, hd w], s, rfl, h1, h2⟩
    · split at e
      · split at e <;> cases e
      · cases e
    · cases e
  · split at e
    · rename_i v' hv
      injection e with e; subst e
      exact convToPtr_sound H m hv ha
    · cases e
  · split at e
    · rename_i htk
      obtain ⟨d, hd, hk⟩ := H.tk htk
      simp only [TKR] at hk; subst hk
      split at e
      · rename_i v' hv
        injection e with e; subst e
        exact convToStr_sound H m hv ha hd
      · cases e
    · cases e

include H in
theorem aconvert_make {src dst : TypeId} {a : AV} {o : AObj} {k : Nat → AV} (e : aconvert E src dst a h = .make o k) {x : Value} (ha : VR L a x) (hsrc : ∃ d, ∀ w, (underlying src).run P w = .ok d w) : Mks P (convert src dst x) w L o k := by
  obtain ⟨d0, hd0⟩ := hsrc
  unfold aconvert at e
  split at e
  · split at e <;> cases e
  · split at e
    · cases e
    · rename_i el htk
      split at e
      · rename_i hel
        split at e
        · rename_i hlt
          injection e with e1 e2; subst e1; subst e2
          obtain ⟨s, rfl, h1, h2⟩ := ha
          subst h1; subst h2
          exact toBytes_make H htk hel (blt_iff.1 hlt) d0 (hd0 w)
        · cases e
      · cases e
    · cases e
  · split at e <;> cases e
  · split at e
    · split at e <;> cases e
    · cases e
end
end Go.AX

namespace Go.AX
open Go Go.RowKit

section
variable {P : Program} {E : Env} (H : EnvOk P E) {B : Nat} {w0 : World} {L : Lay} {h : Heap} {w : World}

/-- what a quiet operation with one answer comes to -/
def AnsN (P : Program) (s : Sem Next) (w : World) (L : Lay) (v : AV) : Prop := ∃ val, s.run P w = .ok (.value val) w ∧ VR L v val
def MksN (P : Program) (s : Sem Next) (w : World) (L : Lay) (o : AObj) (k : Nat → AV) : Prop :=
  ∃ (n : Nat) (obj : Obj) (sz : Nat) (val : Value), s.run P w = .ok (.value val) { w.alloc obj with drawn := n } ∧
    ∀ (M : Lay) (b : Nat), L.le M → M b = some ⟨w.heap.size, 0, sz⟩ → OR M ⟨w.heap.size, 0, sz⟩ o obj ∧ VR M (k b) val

theorem Ans.next {s : Sem Value} {v : AV} (a : Ans P s w L v) : AnsN P (do pure (.value (← s))) w L v := by
  obtain ⟨val, h1, h2⟩ := a
  exact ⟨val, by simp [h1], h2⟩
theorem Mks.next {s : Sem Value} {o : AObj} {k : Nat → AV} (a : Mks P s w L o k) : MksN P (do pure (.value (← s))) w L o k := by
  obtain ⟨n, obj, sz, val, h1, h2⟩ := a
  exact ⟨n, obj, sz, val, by simp [h1], h2⟩

theorem VRL.map {r : Operand → AV} {ρ : Operand → Value} : ∀ {l : List Operand}, (∀ x ∈ l, VR L (r x) (ρ x)) → VRL L (l.map r) (l.map ρ)
  | [], _ => rfl
  | x :: l, h => ⟨_, _, rfl, h x (by simp), VRL.map fun y hy => h y (by simp [hy])⟩
theorem OVR.map {r : Operand → AV} {ρ : Operand → Value} : ∀ {o : Option Operand}, (∀ x, o = some x → VR L (r x) (ρ x)) → OVR L (o.map r) (o.map ρ)
  | none, _ => trivial
  | some x, h => h x rfl

theorem oNilCheck_sound {a v : AV} (e : oNilCheck a = .val v) {ρ : Operand → Value} {x : Operand} {o : Oper} (ho : o.op = .nilCheck x) (ha : VR L a (ρ x)) : AnsN P (execOp ρ o) w L v := by
  unfold oNilCheck at e
  split at e
  · injection e with e; subst e
    obtain ⟨c, hc, hv⟩ := ha
    exact ⟨_, by simp [execOp, ho, hv], c, hc, rfl⟩
  · injection e with e; subst e
    obtain ⟨p, q, hv, h1, h2⟩ := ha
    exact ⟨_, by simp [execOp, ho, hv], p, q, rfl, h1, h2⟩
  · injection e with e; subst e
    obtain ⟨y, hv, h1⟩ := ha
    exact ⟨_, by simp [execOp, ho, hv], y, rfl, h1⟩
  · cases e

theorem oMakeFunc_sound {fn : Fn} {first captured : List AV} {v : AV} (e : oMakeFunc fn first captured = .val v) {us vs : Array Value} (h1 : VRL L first us.toList) (h2 : VRL L captured vs.toList) : Ans P (Instr.makeFunc fn us vs) w L v := by
  unfold oMakeFunc at e
  split at e
  · injection e with e; subst e
    exact ⟨_, rfl, us, vs, rfl, h1, h2⟩
  · cases e

theorem args_cells {r : Operand → AV} {ρ : Operand → Value} {args : Array Operand} (h : ∀ x ∈ args, VR L (r x) (ρ x)) : VRL L (args.toList.map r) (args.map ρ).toList := by
  rw [Array.toList_map]
  exact VRL.map fun x hx => h x (by simpa using hx)

include H in
theorem aquietBuiltin_sound (m : MR B w0 L h w) {b : Builtin} {ts : Array TypeId} {as : List AV} {v : AV} (e : aquietBuiltin E b ts.toList as h = some v) {us : Array Value} (ha : VRL L as us.toList) (ty : TypeId) (cs : Array Bool) :
    AnsN P (builtin b ts ty cs us) w L v := by
  obtain ⟨ts⟩ := ts
  obtain ⟨us⟩ := us
  simp only at e ha
  unfold aquietBuiltin at e
  split at e
  · split at e
    · obtain ⟨x, xs, rfl, hx, hn⟩ := ha
      cases hn
      exact Ans.next (alen_sound H m e hx ty)
    · cases e
  · split at e
    · obtain ⟨x, xs, rfl, hx, hn⟩ := ha
      cases hn
      exact Ans.next (acap_sound H e hx ty)
    · cases e
  · exact Ans.next (aminmax_sound (mx := false) e ha ⟨ts⟩ ty)
  · exact Ans.next (aminmax_sound (mx := true) e ha ⟨ts⟩ ty)
  · exact Ans.next (asliceData_sound e ha ⟨ts⟩ ty)
  · cases e

theorem qOpt_val' {r : Option AV} {why : String} {v : AV} (h : qOpt r why = .val v) : r = some v := qOpt_val h

set_option maxHeartbeats 1000000 in
include H in
theorem aquiet_val (m : MR B w0 L h w) {r : Operand → AV} {ρ : Operand → Value} {o : Oper} {v : AV} (e : aquiet E r o.op h = .val v) (hx : ∀ x ∈ o.op.operands, VR L (r x) (ρ x)) : AnsN P (execOp ρ o) w L v := by
  obtain ⟨dst, op, ty, pos, after, guard⟩ := o
  simp only at e hx ⊢
  cases op <;> simp only [aquiet, reduceCtorEq] at e <;> simp only [Op.operands] at hx
  case move x => injection e with e; subst e; exact ⟨_, rfl, hx x (by simp)⟩
  case assign x => injection e with e; subst e; exact ⟨_, rfl, hx x (by simp)⟩
  case pick c a b =>
    obtain ⟨val, h1, h2⟩ := oPick_sound (P := P) (w := w) e (hx c (by simp)) (hx a (by simp)) (hx b (by simp))
    refine ⟨val, ?_, h2⟩
    simp only [execOp, Sem.run_bind] at h1 ⊢
    cases hc : (asBool (ρ c)).run P w with
    | ok b w' => rw [hc] at h1; simp only [Result.andThen_ok, Sem.run_pure] at h1 ⊢; injection h1 with h1 h1'; subst h1; rw [h1']
    | halt _ _ => rw [hc] at h1; cases h1
  case alloc t => unfold oAlloc at e; split at e <;> cases e
  case box t x => unfold oBox at e; split at e <;> cases e
  case build t ps =>
    refine Ans.next (abuild_sound H (qOpt_val e) ?_)
    have := oParts_sound (L := L) (r := r) (ρ := ρ) ps.toList (fun p hp => hx p.2 (by simp; exact ⟨p.1, by simpa using hp⟩))
    simpa [oParts] using this
  case buildSlice t len ps => unfold oBuildSlice at e; repeat' split at e
                              all_goals cases e
  case load t a => exact Ans.next (oLoad_sound H m e (hx a (by simp)))
  case nilCheck x => exact oNilCheck_sound e rfl (hx x (by simp))
  case binOp op t x y _ => exact Ans.next (abin_sound H m (qOpt_val e) (hx x (by simp)) (hx y (by simp)))
  case unOp op _ x => exact Ans.next (aun_sound (qOpt_val e) (hx x (by simp)))
  case convert src dst x =>
    split at e
    · rename_i k htk
      obtain ⟨d, hd, _⟩ := H.tk htk
      exact Ans.next (aconvert_val H m e (hx x (by simp)) ⟨d, hd⟩)
    · cases e
  case makeInterface t x => exact Ans.next (oMakeInterface_sound H e (hx x (by simp)))
  case makeFunc fn first captured =>
    refine Ans.next (oMakeFunc_sound e ?_ ?_)
    · exact args_cells fun x hq => hx x (by simp [hq])
    · exact args_cells fun x hq => hx x (by simp [hq])
  case makeMap t q => cases q <;> simp only [reduceCtorEq] at e
  case makeSlice t l c => unfold oMakeSlice at e; repeat' split at e
                          all_goals cases e
  case slice t x lo hi mx =>
    refine Ans.next (aslice_sound H (qOpt_val e) (hx x (by simp)) ?_ ?_ ?_)
    · exact OVR.map fun y hy => hx y (by simp [hy])
    · exact OVR.map fun y hy => hx y (by simp [hy])
    · exact OVR.map fun y hy => hx y (by simp [hy])
  case fieldAddr t x f => exact Ans.next (oFieldAddr_sound H e (hx x (by simp)))
  case field t x f => exact Ans.next (oField_sound H e (hx x (by simp)))
  case indexAddr t x i => exact Ans.next (oIndexAddr_sound H e (hx x (by simp)) (hx i (by simp)))
  case index t x i => exact Ans.next (oIndex_sound H e (hx x (by simp)) (hx i (by simp)))
  case lookup t x i ok => exact Ans.next (alookup_sound H m (qOpt_val e) (hx x (by simp)) (hx i (by simp)))
  case range t x => unfold arange at e; repeat' split at e
                    all_goals cases e
  case entry it => exact Ans.next (aentry_sound m (qOpt_val e) (hx it (by simp)))
  case typeAssert x t a ok => exact Ans.next (oTypeAssert_sound H e (hx x (by simp)))
  case extract t i => exact Ans.next (oExtract_sound e (hx t (by simp)))
  case call c =>
    unfold oQuietCall at e
    split at e
    · rename_i b hb
      obtain ⟨val, h1, h2⟩ := aquietBuiltin_sound (P := P) H m (qOpt_val e) (us := c.args.map ρ) (args_cells fun x hq => hx x (by simp [Call.operands, hq])) ty (c.args.map fun | .const _ => true | _ => false)
      refine ⟨val, ?_, h2⟩
      simp only [execOp, resolve, hb, Sem.run_bind, Sem.run_pure, Result.andThen_ok, invoke]
      exact h1
    · cases e

set_option maxHeartbeats 1000000 in
include H in
theorem aquiet_make (m : MR B w0 L h w) {r : Operand → AV} {ρ : Operand → Value} {o : Oper} {x : AObj} {k : Nat → AV} (e : aquiet E r o.op h = .make x k) (hx : ∀ x ∈ o.op.operands, VR L (r x) (ρ x)) : MksN P (execOp ρ o) w L x k := by
  obtain ⟨dst, op, ty, pos, after, guard⟩ := o
  simp only at e hx ⊢
  cases op <;> simp only [aquiet, reduceCtorEq] at e <;> simp only [Op.operands] at hx
  case pick c a b => unfold oPick at e; split at e <;> cases e
  case alloc t => exact Mks.next (oAlloc_make H e)
  case box t x => exact Mks.next (oBox_make e (hx x (by simp)))
  case build t ps => exact (qOpt_make e).elim
  case buildSlice t len ps =>
    refine Mks.next (oBuildSlice_make H e ?_)
    have := oParts_sound (L := L) (r := r) (ρ := ρ) ps.toList (fun p hp => hx p.2 (by simp; exact ⟨p.1, by simpa using hp⟩))
    simpa [oParts] using this
  case load t a => unfold oLoad at e; repeat' split at e
                   all_goals first | cases e | exact (qOpt_make e).elim
  case nilCheck x => unfold oNilCheck at e; split at e <;> cases e
  case binOp op t x y _ => exact (qOpt_make e).elim
  case unOp op _ x => exact (qOpt_make e).elim
  case convert src dst x =>
    split at e
    · rename_i kk htk
      obtain ⟨d, hd, _⟩ := H.tk htk
      exact Mks.next (aconvert_make H e (hx x (by simp)) ⟨d, hd⟩)
    · cases e
  case makeInterface t x => unfold oMakeInterface at e; repeat' split at e
                            all_goals cases e
  case makeFunc fn first captured => unfold oMakeFunc at e; split at e <;> cases e
  case makeMap t q =>
    cases q with
    | none => simp only at e; injection e with e1 e2; subst e1; subst e2; exact Mks.next oMakeMap_make
    | some _ => cases e
  case makeSlice t l c => exact Mks.next (oMakeSlice_make H e (hx l (by simp)) (hx c (by simp)))
  case slice t x lo hi mx => exact (qOpt_make e).elim
  case fieldAddr t x f => unfold oFieldAddr at e; repeat' split at e
                          all_goals first | cases e | (rw [force_eq] at e; cases e)
  case field t x f => unfold oField at e; repeat' split at e
                      all_goals first | cases e | exact (qOpt_make e).elim
  case indexAddr t x i => unfold oIndexAddr at e; repeat' split at e
                          all_goals first | cases e | (rw [force_eq] at e; cases e)
  case index t x i => unfold oIndex at e; repeat' split at e
                      all_goals first | cases e | exact (qOpt_make e).elim
  case lookup t x i ok => exact (qOpt_make e).elim
  case range t x => exact Mks.next (arange_make m e (hx x (by simp)) H)
  case entry it => exact (qOpt_make e).elim
  case typeAssert x t a ok => unfold oTypeAssert at e; repeat' split at e
                              all_goals cases e
  case extract t i => unfold oExtract at e; split at e
                      · exact (qOpt_make e).elim
                      · cases e
  case call c =>
    unfold oQuietCall at e
    split at e
    · exact (qOpt_make e).elim
    · cases e
end
end Go.AX

